import PyProof.Rows.All
import Wide.All
import OpenK.AllK
import Wide.FinOn
import HandS.ForExc
import HandS.ForMost
import HandS.Evl
import HandS.Lambda
import HandS.ExcValue
import HandS.TupAny
import HandS.TupMul
import HandS.Wide
import HandS.Style
import HandS.Conv
import HandS.TupLe
import HandS.IsInst
import HandS.Dict
import HandS.ExcOwn
import HandS.Iter
import HandS.Exc
import HandS.TryOnly
import HandS.ExcIs
import HandS.Ends
import HandS.EndTab
import HandS.CallLocal
import PySem.Challenge.RW_gatewords_k01_letters_and_words_judged
set_option Elab.async false
set_option linter.all false
set_option maxRecDepth 100000
set_option maxHeartbeats 2000000
/-! The data layer: values as data (lists and tuples that stand still inlined), objects that change kept apart (Mu). -/
namespace DL
open PySem PySem.Spec PyProof.Rows L2

inductive D where
  | non | bl (b : Bool) | int (i : Int) | str (x : Str)
  | lst (ds : List D) | tup (ds : List D) | arg (ds : List D) | ins (c : Str) (fs : List (Str × D)) | ref (a : Addr) | ty (n : String) | cls (c : Str)
  | fn (e : Expr) (C : List (Str × Addr)) (q : Str) | exc (c : Str) (fs : List (Str × D))

def Ext (H H' : Hp) : Prop := ∀ a o, H a = some o → H' a = some o
theorem Ext.rfl' {H : Hp} : Ext H H := fun _ _ h => h
theorem Ext.trans {H H1 H2 : Hp} (a : Ext H H1) (b : Ext H1 H2) : Ext H H2 := fun x o h => b x o (a x o h)
theorem Ext.new {H : Hp} {p : Addr} {o : HO} (h : H p = none) : Ext H (upd H p o) := fun a u e => by
  rw [upd_ne (ne_of_none e h)]
  exact e

/-- the function object of a lambda at f -/
def FnO (f c' : Addr) (q : Str) (params : Arguments) (body : Expr) (scope : Scope) (C : List (Str × Addr)) (pm ctv : Value) : HO :=
  .ext fun h => h.get? f = some (PySem.W.kla_obj "<lambda>" (q ++ "<lambda>") params body scope (cloFrom C scope.names []) pm c' ctv)
/-- an error, held as a value: its class, its own dict -/
def ExV (cls : Value) (d : Option Addr) (a : Addr) : HO := .ext fun h => ∃ (oe : Obj) (vs : Array Value), h.get? a = some oe ∧ oe.cls = cls ∧ oe.dict = d ∧ oe.data = .fields vs
mutual
inductive Rp (K : PySem.W.Frag) (B : Hp) : V → D → Prop
  | non : Rp K B .non .non
  | bl (b : Bool) : Rp K B (.bl b) (.bl b)
  | int (i : Int) : Rp K B (.int i) (.int i)
  | str (x : Str) : Rp K B (.str x) (.str x)
  | lst {a : Addr} {xs : List V} {ds : List D} : Rd B a (.lst xs) → RpL K B xs ds → Rp K B (.ref a) (.lst ds)
  | arg {a : Addr} {xs : List V} {ds : List D} : SqL K B a xs → RpL K B xs ds → Rp K B (.ref a) (.arg ds)
  | tup {a : Addr} {xs : List V} {ds : List D} : SqT K B a xs → RpL K B xs ds → Rp K B (.ref a) (.tup ds)
  | ins {c : Str} {a C dx : Addr} {fs : List (Str × V)} {gs : List (Str × D)} : PySem.W.nsIn K mainGlobals c = some (some (.ref C)) → B a = some (.ins C dx fs) → RpF K B fs gs → Rp K B (.ref a) (.ins c gs)
  | ref (a : Addr) : Rp K B (.ref a) (.ref a)
  | ty (n : String) : Rp K B (.ty n) (.ty n)
  | cls {c : Str} {C : Addr} : PySem.W.nsIn K mainGlobals c = some (some (.ref C)) → Rp K B (.ref C) (.cls c)
  | fn {f c' : Addr} {params : Arguments} {body : Expr} {scope : Scope} {pos : Pos} {C : List (Str × Addr)} {q : Str} {pm ctv : Value} : B f = some (FnO f c' q params body scope C pm ctv) → B c' = some (LamX.CodeO c' (q ++ "<lambda>")) → Rp K B (.ref f) (.fn (.Lambda params body scope pos) C q)
  | exc {c : Str} {cls : Value} {a : Addr} : PySem.W.nsIn K mainGlobals c = some (some cls) → B a = some (ExV cls none a) → Rp K B (.ref a) (.exc c [])
  | excD {c : Str} {cls : Value} {a dx : Addr} {fs : List (Str × V)} {gs : List (Str × D)} : PySem.W.nsIn K mainGlobals c = some (some cls) → B a = some (ExV cls (some dx) a) → B dx = some (.xd fs) → RpF K B fs gs → Rp K B (.ref a) (.exc c gs)
inductive RpL (K : PySem.W.Frag) (B : Hp) : List V → List D → Prop
  | nil : RpL K B [] []
  | cons {v : V} {vs : List V} {d : D} {ds : List D} : Rp K B v d → RpL K B vs ds → RpL K B (v :: vs) (d :: ds)
inductive RpF (K : PySem.W.Frag) (B : Hp) : List (Str × V) → List (Str × D) → Prop
  | nil : RpF K B [] []
  | cons {x : Str} {v : V} {vs : List (Str × V)} {d : D} {ds : List (Str × D)} : Rp K B v d → RpF K B vs ds → RpF K B ((x, v) :: vs) ((x, d) :: ds)
end
def RpKv (K : PySem.W.Frag) (B : Hp) : List (Key × V) → List (Key × D) → Prop := Paired fun p q => p.1 = q.1 ∧ Rp K B p.2 q.2

theorem ext_rd {H H' : Hp} {a : Addr} {u : HO} (e : Ext H H') (h : Rd H a u) : Rd H' a u := by
  rcases h with h | ⟨o, h⟩
  · exact Or.inl (e a _ h)
  · exact Or.inr ⟨o, e a _ h⟩
theorem ext_l {K : PySem.W.Frag} {H H' : Hp} {a : Addr} {xs : List V} (e : Ext H H') (h : SqL K H a xs) : SqL K H' a xs := by
  rcases h with h | h
  · exact Or.inl (ext_rd e h)
  · exact Or.inr h
theorem ext_t {K : PySem.W.Frag} {H H' : Hp} {a : Addr} {xs : List V} (e : Ext H H') (h : SqT K H a xs) : SqT K H' a xs := by
  rcases h with h | h
  · exact Or.inl (ext_rd e h)
  · exact Or.inr h
mutual
theorem Rp.mono {K : PySem.W.Frag} {B B' : Hp} (e : Ext B B') : ∀ {v : V} {d : D}, Rp K B v d → Rp K B' v d
  | _, _, .non => .non
  | _, _, .bl b => .bl b
  | _, _, .int i => .int i
  | _, _, .str x => .str x
  | _, _, .lst h r => .lst (ext_rd e h) (RpL.mono e r)
  | _, _, .arg h r => .arg (ext_l e h) (RpL.mono e r)
  | _, _, .tup h r => .tup (ext_t e h) (RpL.mono e r)
  | _, _, .ins n h r => .ins n (e _ _ h) (RpF.mono e r)
  | _, _, .ref a => .ref a
  | _, _, .ty n => .ty n
  | _, _, .cls h => .cls h
  | _, _, .fn h k => .fn (e _ _ h) (e _ _ k)
  | _, _, .exc n h => .exc n (e _ _ h)
  | _, _, .excD n h k r => .excD n (e _ _ h) (e _ _ k) (RpF.mono e r)
theorem RpL.mono {K : PySem.W.Frag} {B B' : Hp} (e : Ext B B') : ∀ {v : List V} {d : List D}, RpL K B v d → RpL K B' v d
  | _, _, .nil => .nil
  | _, _, .cons h r => .cons (Rp.mono e h) (RpL.mono e r)
theorem RpF.mono {K : PySem.W.Frag} {B B' : Hp} (e : Ext B B') : ∀ {v : List (Str × V)} {d : List (Str × D)}, RpF K B v d → RpF K B' v d
  | _, _, .nil => .nil
  | _, _, .cons h r => .cons (Rp.mono e h) (RpF.mono e r)
end
theorem RpL.length {K : PySem.W.Frag} {B : Hp} : ∀ {v : List V} {d : List D}, RpL K B v d → v.length = d.length
  | _, _, .nil => rfl
  | _, _, .cons _ r => congrArg (· + 1) r.length
theorem RpL.get {K : PySem.W.Frag} {B : Hp} : ∀ {v : List V} {d : List D} {i : Nat} {x : D}, RpL K B v d → d[i]? = some x → ∃ u, v[i]? = some u ∧ Rp K B u x
  | _, _, _, _, .nil, e => by simp at e
  | _, _, 0, _, .cons h _, e => by simp at e; subst e; exact ⟨_, rfl, h⟩
  | _, _, i + 1, _, .cons _ r, e => by
    obtain ⟨u, h1, h2⟩ := r.get (i := i) (by simpa using e)
    exact ⟨u, by simpa using h1, h2⟩
theorem RpL.get' {K : PySem.W.Frag} {B : Hp} : ∀ {v : List V} {d : List D} {i : Nat} {x : V}, RpL K B v d → v[i]? = some x → ∃ u, d[i]? = some u ∧ Rp K B x u
  | _, _, _, _, .nil, e => by simp at e
  | _, _, 0, _, .cons h _, e => by simp at e; subst e; exact ⟨_, rfl, h⟩
  | _, _, i + 1, _, .cons _ r, e => by
    obtain ⟨u, h1, h2⟩ := r.get' (i := i) (by simpa using e)
    exact ⟨u, by simpa using h1, h2⟩
theorem RpL.append {K : PySem.W.Frag} {B : Hp} : ∀ {v w : List V} {d e : List D}, RpL K B v d → RpL K B w e → RpL K B (v ++ w) (d ++ e)
  | _, _, _, _, .nil, s => s
  | _, _, _, _, .cons h r, s => .cons h (r.append s)
theorem RpL.take {K : PySem.W.Frag} {B : Hp} : ∀ {v : List V} {d : List D} (n : Nat), RpL K B v d → RpL K B (v.take n) (d.take n)
  | _, _, 0, _ => .nil
  | _, _, _ + 1, .nil => .nil
  | _, _, n + 1, .cons h r => .cons h (r.take n)
theorem RpL.drop {K : PySem.W.Frag} {B : Hp} : ∀ {v : List V} {d : List D} (n : Nat), RpL K B v d → RpL K B (v.drop n) (d.drop n)
  | _, _, 0, r => r
  | _, _, _ + 1, .nil => .nil
  | _, _, n + 1, .cons _ r => r.drop n
theorem RpL.set {K : PySem.W.Frag} {B : Hp} {x : V} {y : D} (q : Rp K B x y) : ∀ {v : List V} {d : List D} (n : Nat), RpL K B v d → RpL K B (v.set n x) (d.set n y)
  | _, _, _, .nil => .nil
  | _, _, 0, .cons _ r => .cons q r
  | _, _, n + 1, .cons h r => .cons h (RpL.set q n r)
theorem RpL.eraseIdx {K : PySem.W.Frag} {B : Hp} : ∀ {v : List V} {d : List D} (n : Nat), RpL K B v d → RpL K B (v.eraseIdx n) (d.eraseIdx n)
  | _, _, _, .nil => .nil
  | _, _, 0, .cons _ r => r
  | _, _, n + 1, .cons h r => .cons h (r.eraseIdx n)
theorem RpL.reverse {K : PySem.W.Frag} {B : Hp} : ∀ {v : List V} {d : List D}, RpL K B v d → RpL K B v.reverse d.reverse
  | _, _, .nil => .nil
  | _, _, .cons h r => by
    rw [List.reverse_cons, List.reverse_cons]
    exact r.reverse.append (.cons h .nil)
theorem RpL.replicate {K : PySem.W.Frag} {B : Hp} {v : V} {d : D} (h : Rp K B v d) : ∀ n : Nat, RpL K B (List.replicate n v) (List.replicate n d)
  | 0 => .nil
  | n + 1 => .cons h (RpL.replicate h n)
theorem RpL.dropLast {K : PySem.W.Frag} {B : Hp} {v : List V} {d : List D} (r : RpL K B v d) : RpL K B v.dropLast d.dropLast := by
  rw [List.dropLast_eq_take, List.dropLast_eq_take, r.length]
  exact r.take _
theorem Rp.int_inv {K : PySem.W.Frag} {B : Hp} {v : V} {i : Int} (h : Rp K B v (.int i)) : v = .int i := by cases h; rfl
theorem Rp.bl_inv {K : PySem.W.Frag} {B : Hp} {v : V} {b : Bool} (h : Rp K B v (.bl b)) : v = .bl b := by cases h; rfl
theorem Rp.str_inv {K : PySem.W.Frag} {B : Hp} {v : V} {b : Str} (h : Rp K B v (.str b)) : v = .str b := by cases h; rfl
theorem Rp.ref_inv {K : PySem.W.Frag} {B : Hp} {v : V} {a : Addr} (h : Rp K B v (.ref a)) : v = .ref a := by cases h; rfl
theorem Rp.non_inv {K : PySem.W.Frag} {B : Hp} {v : V} (h : Rp K B v .non) : v = .non := by cases h; rfl
theorem Rp.lst_inv {K : PySem.W.Frag} {B : Hp} {v : V} {ds : List D} (h : Rp K B v (.lst ds)) : ∃ a xs, v = .ref a ∧ Rd B a (.lst xs) ∧ RpL K B xs ds := by
  cases h with
  | lst h r => exact ⟨_, _, rfl, h, r⟩
theorem Rp.tup_inv {K : PySem.W.Frag} {B : Hp} {v : V} {ds : List D} (h : Rp K B v (.tup ds)) : ∃ a xs, v = .ref a ∧ SqT K B a xs ∧ RpL K B xs ds := by
  cases h with
  | tup h r => exact ⟨_, _, rfl, h, r⟩
theorem Rp.arg_inv {K : PySem.W.Frag} {B : Hp} {v : V} {ds : List D} (h : Rp K B v (.arg ds)) : ∃ a xs, v = .ref a ∧ SqL K B a xs ∧ RpL K B xs ds := by
  cases h with
  | arg h r => exact ⟨_, _, rfl, h, r⟩
theorem RpL.ints {K : PySem.W.Frag} {B : Hp} : ∀ {ns : List Int} {v : List V}, RpL K B v (ns.map .int) → v = ns.map V.int
  | [], _, .nil => rfl
  | n :: ns, _, .cons h r => by rw [h.int_inv, r.ints]; rfl
theorem RpL.bls {K : PySem.W.Frag} {B : Hp} : ∀ {ns : List Bool} {v : List V}, RpL K B v (ns.map .bl) → v = ns.map V.bl
  | [], _, .nil => rfl
  | n :: ns, _, .cons h r => by rw [h.bl_inv, r.bls]; rfl
theorem RpL.of_ints {K : PySem.W.Frag} {B : Hp} : ∀ {ns : List Int}, RpL K B (ns.map V.int) (ns.map .int)
  | [] => .nil
  | n :: ns => .cons (.int n) RpL.of_ints

/-! ### what changes -/
inductive MO where
  | lst (ds : List D)
  | dct (kvs : List (Key × D))
  /-- the table of code objects of the lambdas that are made by the def of that name -/
  | tbl (q : Str)
abbrev Mu := Addr → Option MO
def MoR (K : PySem.W.Frag) (B H : Hp) (a : Addr) : MO → Prop
  | .lst ds => ∃ xs, H a = some (.lst xs) ∧ RpL K B xs ds
  | .dct kvs => ∃ ys, H a = some (.dK ys) ∧ RpKv K B ys kvs
  | .tbl q => ∃ ps : Array Value, H a = some (.tbl ps) ∧ TriplesOk ps.toList ∧ ∀ (pos : Pos) (cv : Value), codeAmong pos ps.toList = some cv → ∃ c, cv = .ref c ∧ B c = some (LamX.CodeO c q)
def mset (μ : Mu) (a : Addr) (m : MO) : Mu := fun b => if b = a then some m else μ b
def mdel (μ : Mu) (a : Addr) : Mu := fun b => if b = a then none else μ b
theorem mset_same {μ : Mu} {a : Addr} {m : MO} : mset μ a m a = some m := by unfold mset; rw [if_pos rfl]
theorem mset_ne {μ : Mu} {a b : Addr} {m : MO} (h : b ≠ a) : mset μ a m b = μ b := by unfold mset; rw [if_neg h]
theorem mdel_ne {μ : Mu} {a b : Addr} (h : b ≠ a) : mdel μ a b = μ b := by unfold mdel; rw [if_neg h]
theorem mdel_same {μ : Mu} {a : Addr} : mdel μ a a = none := by unfold mdel; rw [if_pos rfl]
theorem mset_mset {μ : Mu} {a : Addr} {m n : MO} : mset (mset μ a m) a n = mset μ a n := by
  funext b; unfold mset; split <;> rfl
structure Good (K : PySem.W.Frag) (B H : Hp) (μ : Mu) : Prop where
  ex : Ext B H
  mo : ∀ a m, μ a = some m → B a = none ∧ MoR K B H a m
theorem RpKv.mono {K : PySem.W.Frag} {B B' : Hp} (e : Ext B B') {ys : List (Key × V)} {kvs : List (Key × D)} (h : RpKv K B ys kvs) : RpKv K B' ys kvs := by
  induction h with
  | nil => exact .nil
  | cons h _ ih => exact .cons ⟨h.1, h.2.mono e⟩ ih
theorem MoR.mono {K : PySem.W.Frag} {B B' H H' : Hp} {a : Addr} {m : MO} (h : MoR K B H a m) (e : Ext B B') (eh : H' a = H a) : MoR K B' H' a m := by
  cases m with
  | lst ds => obtain ⟨xs, h1, h2⟩ := h; exact ⟨xs, by rw [eh]; exact h1, h2.mono e⟩
  | dct kvs => obtain ⟨xs, h1, h2⟩ := h; exact ⟨xs, by rw [eh]; exact h1, h2.mono e⟩
  | tbl q =>
    obtain ⟨ps, h1, h2, h3⟩ := h
    exact ⟨ps, by rw [eh]; exact h1, h2, fun pos cv hc => let ⟨c, e1, e2⟩ := h3 pos cv hc; ⟨c, e1, e _ _ e2⟩⟩
theorem MoR.tracked {K : PySem.W.Frag} {B H : Hp} {a : Addr} {m : MO} (h : MoR K B H a m) : ∃ o, H a = some o := by
  cases m with
  | lst ds => obtain ⟨xs, h1, _⟩ := h; exact ⟨_, h1⟩
  | dct kvs => obtain ⟨xs, h1, _⟩ := h; exact ⟨_, h1⟩
  | tbl q => obtain ⟨xs, h1, _⟩ := h; exact ⟨_, h1⟩
theorem Good.free {K : PySem.W.Frag} {B H : Hp} {μ : Mu} (g : Good K B H μ) {a : Addr} (h : H a = none) : μ a = none := by
  cases e : μ a with
  | none => rfl
  | some m =>
    obtain ⟨o, ho⟩ := (g.mo a m e).2.tracked
    rw [h] at ho
    cases ho
theorem Good.freeB {K : PySem.W.Frag} {B H : Hp} {μ : Mu} (g : Good K B H μ) {a : Addr} (h : H a = none) : B a = none := by
  cases e : B a with
  | none => rfl
  | some o => rw [g.ex a o e] at h; cases h
/-- a new thing that stands still -/
theorem Good.still {K : PySem.W.Frag} {B H : Hp} {μ : Mu} (g : Good K B H μ) {p : Addr} {o : HO} (h : H p = none) : Good K (upd B p o) (upd H p o) μ where
  ex := fun a u e => by
    by_cases c : a = p
    · subst c
      rw [upd_same] at e ⊢
      exact e
    · rw [upd_ne c] at e ⊢
      exact g.ex a u e
  mo := fun a m e => by
    have c : a ≠ p := fun z => by subst z; rw [g.free h] at e; cases e
    obtain ⟨h1, h2⟩ := g.mo a m e
    exact ⟨by rw [upd_ne c]; exact h1, h2.mono (Ext.new (g.freeB h)) (by rw [upd_ne c])⟩
/-- a new thing that will change -/
theorem Good.fresh {K : PySem.W.Frag} {B H : Hp} {μ : Mu} (g : Good K B H μ) {p : Addr} {o : HO} {m : MO} (h : H p = none) (r : MoR K B (upd H p o) p m) : Good K B (upd H p o) (mset μ p m) where
  ex := g.ex.trans (Ext.new h)
  mo := fun a n e => by
    by_cases c : a = p
    · subst c
      rw [mset_same] at e
      cases e
      exact ⟨g.freeB h, r⟩
    · rw [mset_ne c] at e
      obtain ⟨h1, h2⟩ := g.mo a n e
      exact ⟨h1, h2.mono Ext.rfl' (by rw [upd_ne c])⟩
/-- a changed thing -/
theorem Good.put {K : PySem.W.Frag} {B H : Hp} {μ : Mu} (g : Good K B H μ) {p : Addr} {o : HO} {m m0 : MO} (h : μ p = some m0) (r : MoR K B (upd H p o) p m) : Good K B (upd H p o) (mset μ p m) where
  ex := fun a u e => by
    have c : a ≠ p := fun z => by subst z; rw [(g.mo _ _ h).1] at e; cases e
    rw [upd_ne c]
    exact g.ex a u e
  mo := fun a n e => by
    by_cases c : a = p
    · subst c
      rw [mset_same] at e
      cases e
      exact ⟨(g.mo _ _ h).1, r⟩
    · rw [mset_ne c] at e
      obtain ⟨h1, h2⟩ := g.mo a n e
      exact ⟨h1, h2.mono Ext.rfl' (by rw [upd_ne c])⟩
/-- less is known -/
theorem Good.less {K : PySem.W.Frag} {B H : Hp} {μ μ' : Mu} (g : Good K B H μ) (h : ∀ a m, μ' a = some m → μ a = some m) : Good K B H μ' := ⟨g.ex, fun a m e => g.mo a m (h a m e)⟩
/-- a list that will change no more -/
theorem Good.freeze {K : PySem.W.Frag} {B H : Hp} {μ : Mu} (g : Good K B H μ) {p : Addr} {ds : List D} (h : μ p = some (.lst ds)) : ∃ B', Ext B B' ∧ Good K B' H (mdel μ p) ∧ Rp K B' (.ref p) (.lst ds) := by
  obtain ⟨hB, xs, hx, r⟩ := g.mo _ _ h
  refine ⟨upd B p (.lst xs), Ext.new hB, ⟨fun a u e => ?_, fun a m e => ?_⟩, .lst (Or.inl upd_same) (r.mono (Ext.new hB))⟩
  · by_cases c : a = p
    · subst c
      rw [upd_same] at e
      rw [← e]
      exact hx
    · rw [upd_ne c] at e
      exact g.ex a u e
  · have c : a ≠ p := fun z => by subst z; rw [mdel_same] at e; cases e
    rw [mdel_ne c] at e
    obtain ⟨h1, h2⟩ := g.mo a m e
    exact ⟨by rw [upd_ne c]; exact h1, h2.mono (Ext.new hB) rfl⟩

/-! ### slots -/
abbrev Rho := List (Option D)
structure SlR (K : PySem.W.Frag) (B : Hp) (σ : L2.St) (ρ : Rho) : Prop where
  len : σ.length = ρ.length
  at_ : ∀ (i : Nat) (d : D), ρ[i]? = some (some d) → ∃ v, σ[i]? = some (some v) ∧ Rp K B v d
theorem SlR.mono {K : PySem.W.Frag} {B B' : Hp} {σ : L2.St} {ρ : Rho} (s : SlR K B σ ρ) (e : Ext B B') : SlR K B' σ ρ := ⟨s.len, fun i d h => let ⟨v, h1, h2⟩ := s.at_ i d h; ⟨v, h1, h2.mono e⟩⟩
theorem SlR.set {K : PySem.W.Frag} {B : Hp} {σ : L2.St} {ρ : Rho} {v : V} {d : D} (s : SlR K B σ ρ) (i : Nat) (r : Rp K B v d) : SlR K B (σ.set i (some v)) (ρ.set i (some d)) := by
  refine ⟨by simp [s.len], fun j e h => ?_⟩
  by_cases c : i = j
  · subst c
    rw [List.getElem?_set] at h ⊢
    simp only [if_true] at h ⊢
    have hl := s.len
    split at h
    · rename_i hh
      rw [if_pos (by omega)]
      cases h
      exact ⟨v, rfl, r⟩
    · cases h
  · rw [List.getElem?_set, if_neg c] at h ⊢
    exact s.at_ j e h
/-! ### readings over data -/
structure Exn where
  cls : Str
  fs : List (Str × D)
abbrev DQ := D → Mu → Prop
abbrev XQ := Exn → Mu → Prop
abbrev DE := Rho → Mu → DQ → XQ → Prop
abbrev DT := Rho → Mu → (Bool → Mu → Prop) → XQ → Prop
abbrev DA := Rho → Mu → (List D → Mu → Prop) → XQ → Prop
/-- an error that leaves, its own dict at dx -/
def ExR (K : PySem.W.Frag) (B : Hp) (cls : Value) (dx : Option Addr) (x : Exn) : Prop :=
  PySem.W.nsIn K mainGlobals x.cls = some (some cls) ∧ ((dx = none ∧ x.fs = []) ∨ ∃ a fs, dx = some a ∧ B a = some (.xd fs) ∧ RpF K B fs x.fs)
theorem ExR.mono {K : PySem.W.Frag} {B B' : Hp} (e : Ext B B') {cls : Value} {dx : Option Addr} {x : Exn} (h : ExR K B cls dx x) : ExR K B' cls dx x := by
  obtain ⟨h1, h2⟩ := h
  refine ⟨h1, ?_⟩
  rcases h2 with h2 | ⟨a, fs, e1, e2, e3⟩
  · exact .inl h2
  · exact .inr ⟨a, fs, e1, e _ _ e2, e3.mono e⟩
/-- what follows: from a state over B -/
structure KtX (K : PySem.W.Frag) (W : WX) (B : Hp) (σ : L2.St) (QE : XQ) : Prop where
  ex : ∀ cls dx x H2 B2 μ2, Ext B B2 → Good K B2 H2 μ2 → ExR K B2 cls dx x → QE x μ2 → W cls dx σ H2
theorem KtX.mono {K : PySem.W.Frag} {W : WX} {B B' : Hp} {σ : L2.St} {QE : XQ} (k : KtX K W B σ QE) (e : Ext B B') : KtX K W B' σ QE := ⟨fun cls dx x H2 B2 μ2 a => k.ex cls dx x H2 B2 μ2 (e.trans a)⟩
structure Kt (K : PySem.W.Frag) (B : Hp) (Q : VK) (QD : DQ) : Prop where
  ok : ∀ v d H2 B2 μ2, Ext B B2 → Good K B2 H2 μ2 → Rp K B2 v d → QD d μ2 → Q v H2
theorem Kt.mono {K : PySem.W.Frag} {B B' : Hp} {Q : VK} {QD : DQ} (k : Kt K B Q QD) (e : Ext B B') : Kt K B' Q QD := ⟨fun v d H2 B2 μ2 a => k.ok v d H2 B2 μ2 (e.trans a)⟩
def upE (K : PySem.W.Frag) (W : WX) (de : DE) : TE := fun σ H Q => ∃ B ρ μ QD QE, Good K B H μ ∧ SlR K B σ ρ ∧ de ρ μ QD QE ∧ Kt K B Q QD ∧ KtX K W B σ QE
def upT (K : PySem.W.Frag) (W : WX) (de : DT) : TT := fun σ H Q => ∃ B ρ μ QD QE, Good K B H μ ∧ SlR K B σ ρ ∧ de ρ μ QD QE ∧ (∀ b H2 B2 μ2, Ext B B2 → Good K B2 H2 μ2 → QD b μ2 → Q b H2) ∧ KtX K W B σ QE
def upA (K : PySem.W.Frag) (W : WX) (de : DA) : TA := fun σ H Q => ∃ B ρ μ QD QE, Good K B H μ ∧ SlR K B σ ρ ∧ de ρ μ QD QE ∧ (∀ vs ds H2 B2 μ2, Ext B B2 → Good K B2 H2 μ2 → RpL K B2 vs ds → QD ds μ2 → Q vs H2) ∧ KtX K W B σ QE
structure RE (X : Cx) (W : WX) (e : Expr) (de : DE) : Prop where
  pe : PE X e (upE X.K W de)
structure RT (X : Cx) (W : WX) (e : Expr) (de : DT) : Prop where
  pt : PT X e (upT X.K W de)
structure RW (X : Cx) (W : WX) (e : Expr) (de : DT) : Prop where
  pw : PW X e (upT X.K W de)
structure RA (X : Cx) (W : WX) (es : List Expr) (de : DA) : Prop where
  pa : PA X es (upA X.K W de)
structure DEnds where
  nx : Rho → Mu → Prop
  rt : DQ
  bk : Rho → Mu → Prop := fun _ _ => False
  ct : Rho → Mu → Prop := fun _ _ => False
  xe : XQ
abbrev DS := DEnds → Rho → Mu → Prop
structure KtS (K : PySem.W.Frag) (W : WX) (B : Hp) (D : Ends) (DD : DEnds) : Prop where
  nx : ∀ σ2 ρ2 H2 B2 μ2, Ext B B2 → Good K B2 H2 μ2 → SlR K B2 σ2 ρ2 → DD.nx ρ2 μ2 → D.nx σ2 H2
  bk : ∀ σ2 ρ2 H2 B2 μ2, Ext B B2 → Good K B2 H2 μ2 → SlR K B2 σ2 ρ2 → DD.bk ρ2 μ2 → D.bk σ2 H2
  ct : ∀ σ2 ρ2 H2 B2 μ2, Ext B B2 → Good K B2 H2 μ2 → SlR K B2 σ2 ρ2 → DD.ct ρ2 μ2 → D.ct σ2 H2
  rt : Kt K B D.rt DD.rt
  xe : ∀ σ, KtX K W B σ DD.xe
theorem KtS.mono {K : PySem.W.Frag} {W : WX} {B B' : Hp} {D : Ends} {DD : DEnds} (k : KtS K W B D DD) (e : Ext B B') : KtS K W B' D DD :=
  ⟨fun σ2 ρ2 H2 B2 μ2 a => k.nx σ2 ρ2 H2 B2 μ2 (e.trans a), fun σ2 ρ2 H2 B2 μ2 a => k.bk σ2 ρ2 H2 B2 μ2 (e.trans a), fun σ2 ρ2 H2 B2 μ2 a => k.ct σ2 ρ2 H2 B2 μ2 (e.trans a), k.rt.mono e, fun σ => (k.xe σ).mono e⟩
def upS (K : PySem.W.Frag) (W : WX) (ds : DS) : TS := fun D σ H => ∃ B ρ μ DD, Good K B H μ ∧ SlR K B σ ρ ∧ ds DD ρ μ ∧ KtS K W B D DD
structure RS (X : Cx) (W : WX) (st : Stmt) (ds : DS) : Prop where
  ps : PS X st (upS X.K W ds)
structure RSs (X : Cx) (W : WX) (st : List Stmt) (ds : DS) : Prop where
  pss : PSs X st (upS X.K W ds)

/-! ### consequence -/
theorem PE.imp {X : Cx} {e : Expr} {t t' : TE} (h : PE X e t) (i : ∀ σ H Q, t' σ H Q → t σ H Q) : PE X e t' := ⟨fun pins s σ H Q I q => h.run pins s σ H Q I (i σ H Q q)⟩
theorem PT.imp {X : Cx} {e : Expr} {t t' : TT} (h : PT X e t) (i : ∀ σ H Q, t' σ H Q → t σ H Q) : PT X e t' := ⟨fun pins s σ H Q I q => h.run pins s σ H Q I (i σ H Q q)⟩
theorem PW.imp {X : Cx} {e : Expr} {t t' : TT} (h : PW X e t) (i : ∀ σ H Q, t' σ H Q → t σ H Q) : PW X e t' := ⟨fun w pins s σ H Q I q => h.run w pins s σ H Q I (i σ H Q q)⟩
theorem PA.imp {X : Cx} {e : List Expr} {t t' : TA} (h : PA X e t) (i : ∀ σ H Q, t' σ H Q → t σ H Q) : PA X e t' := ⟨fun p pins s σ H Q I q => h.run p pins s σ H Q I (i σ H Q q)⟩
theorem PS.imp {X : Cx} {e : Stmt} {t t' : TS} (h : PS X e t) (i : ∀ D σ H, t' D σ H → t D σ H) : PS X e t' := ⟨fun pins s σ H D I q => h.run pins s σ H D I (i D σ H q)⟩
theorem PSs.imp {X : Cx} {e : List Stmt} {t t' : TS} (h : PSs X e t) (i : ∀ D σ H, t' D σ H → t D σ H) : PSs X e t' := ⟨fun pins s σ H D I q => h.run pins s σ H D I (i D σ H q)⟩

section
variable {X : Cx} {W : WX} {e a b c : Expr} {es : List Expr} {da db dc : DE} {dt du : DT} {dr : DA} {pos : Pos}
/-! ### names and constants -/
def dVar (i : Nat) : DE := fun ρ μ Q _ => ∃ d, ρ[i]? = some (some d) ∧ Q d μ
def dC (d : D) : DE := fun _ μ Q _ => Q d μ
theorem re_c {v : V} {d : D} (h : PE X e (tC v)) (r : ∀ B, Rp X.K B v d) : RE X W e (dC d) :=
  ⟨PE.imp h fun σ H Q ⟨B, ρ, μ, QD, QE, g, s, q, k, x⟩ => k.ok v d H B μ Ext.rfl' g (r B) q⟩
theorem re_var {i : Nat} {x : Str} (hN : X.N[i]? = some x) (hv : Vis X.env.scope x) (hd : (x == ("__debug__" : Str)) = false := by decide) (hcd : (x == ("__classdict__" : Str)) = false := by decide) : RE X W (.Name x pos) (dVar i) :=
  ⟨PE.imp (pe_var (i := i) hN hv hd hcd) fun σ H Q ⟨B, ρ, μ, QD, QE, g, s, q, k, x⟩ => by
    obtain ⟨d, e, q⟩ := q
    obtain ⟨v, h1, h2⟩ := s.at_ i d e
    exact ⟨v, h1, k.ok v d H B μ Ext.rfl' g h2 q⟩⟩
theorem re_int {i j pos} : RE X W (.Constant (.int i) j pos) (dC (.int i)) := re_c pe_int fun _ => .int _
theorem re_bl {i j pos} : RE X W (.Constant (.bool i) j pos) (dC (.bl i)) := re_c pe_bl fun _ => .bl _
theorem re_str {i j pos} : RE X W (.Constant (.str i) j pos) (dC (.str i)) := re_c pe_str fun _ => .str _
theorem re_non {j pos} : RE X W (.Constant .none j pos) (dC .non) := re_c pe_non fun _ => .non
theorem re_glob {x : Str} {v : V} {d : D} {u : Value} (hg : Gl X x) (hm : X.mg x = some u) (r : RelV v u) (q : ∀ B, Rp X.K B v d) (hd : (x == ("__debug__" : Str)) = false := by decide) : RE X W (.Name x pos) (dC d) := re_c (pe_glob hg hm r hd) q
theorem re_bltn {x : Str} {v : V} {d : D} {u : Value} (hg : Gl X x) (hm : X.mg x = none) (hv : bootBuiltins x = some u) (r : RelV v u) (q : ∀ B, Rp X.K B v d) (hn : x ≠ "__name__" := by decide) (hd : (x == ("__debug__" : Str)) = false := by decide) : RE X W (.Name x pos) (dC d) := re_c (pe_bltn hg hm hv r hn hd) q

/-! ### operators by values -/
abbrev D2 := D → D → Mu → DQ → Prop
/-- a V-level operator does what a data-level one says -/
def OpD (K : PySem.W.Frag) (r : R2) (rd : D2) : Prop := ∀ B H μ x y d e QD Q, Good K B H μ → Rp K B x d → Rp K B y e → rd d e μ QD → Kt K B Q QD → r x y H Q
def dOp (rd : D2) (da db : DE) : DE := fun ρ μ Q E => da ρ μ (fun d μ1 => db ρ μ1 (fun e μ2 => rd d e μ2 Q) E) E
theorem up_op {K : PySem.W.Frag} {r : R2} {rd : D2} (h : OpD K r rd) {σ : L2.St} {H : Hp} {Q : VK} (q : upE K W (dOp rd da db) σ H Q) : tOp r (upE K W da) (upE K W db) σ H Q := by
  obtain ⟨B, ρ, μ, QD, QE, g, s, q, k, x⟩ := q
  refine ⟨B, ρ, μ, _, QE, g, s, q, ⟨fun v d H1 B1 μ1 e1 g1 r1 q1 => ?_⟩, x⟩
  refine ⟨B1, ρ, μ1, _, QE, g1, s.mono e1, q1, ⟨fun w e H2 B2 μ2 e2 g2 r2 q2 => ?_⟩, x.mono e1⟩
  exact h B2 H2 μ2 v w d e QD Q g2 (r1.mono e2) r2 q2 (k.mono (e1.trans e2))
theorem re_op {op : Operator} {r : R2} {rd : D2} (ho : OpR X (binaryOp op) r) (h : OpD X.K r rd) (ha : RE X W a da) (hb : RE X W b db) : RE X W (.BinOp a op b pos) (dOp rd da db) :=
  ⟨PE.imp (pe_op ho ha.pe hb.pe) fun _ _ _ q => up_op h q⟩
theorem re_cmp {op : CmpOp} {r : R2} {rd : D2} (ho : OpR X (compareOp op) r) (h : OpD X.K r rd) (ha : RE X W a da) (hb : RE X W b db) (hm : behindInMarks op b = false) : RE X W (.Compare a [op] [b] pos) (dOp rd da db) :=
  ⟨PE.imp (pe_cmpR ho ha.pe hb.pe hm) fun _ _ _ q => up_op h q⟩
theorem re_ix {r : R2} {rd : D2} (ho : IxR X r) (h : OpD X.K r rd) (ha : RE X W a da) (hb : RE X W b db) (hm : PlainIx b) : RE X W (.Subscript a b pos) (dOp rd da db) :=
  ⟨PE.imp (pe_ix ho ha.pe hb.pe hm) fun _ _ _ q => up_op h q⟩
def dTest (de : DE) : DT := fun ρ μ Q E => de ρ μ (fun d μ1 => ∃ b, d = .bl b ∧ Q b μ1) E
theorem up_test {K : PySem.W.Frag} {σ : L2.St} {H : Hp} {Q : Bool → Hp → Prop} (q : upT K W (dTest da) σ H Q) : tB (upE K W da) σ H Q := by
  obtain ⟨B, ρ, μ, QD, QE, g, s, q, k, x⟩ := q
  refine ⟨B, ρ, μ, _, QE, g, s, q, ⟨fun v d H1 B1 μ1 e1 g1 r1 q1 => ?_⟩, x⟩
  obtain ⟨b, rfl, q1⟩ := q1
  exact ⟨b, r1.bl_inv, k b H1 B1 μ1 e1 g1 q1⟩
/-- a test that is a bool -/
theorem rt_val (h : RE X W e da) (he : ∀ whole, isTrue e X.env whole = (do let v ← whole; standAt e.pos; holding [v] (truthy v)) := by intro _; rfl) : RT X W e (dTest da) :=
  ⟨PT.imp (pt_val h.pe he) fun _ _ _ q => up_test q⟩
theorem rt_cmp {op : CmpOp} {r : R2} {rd : D2} (ho : OpR X (compareOp op) r) (h : OpD X.K r rd) (ha : RE X W a da) (hb : RE X W b db) (hm : behindInMarks op b = false) : RT X W (.Compare a [op] [b] pos) (dTest (dOp rd da db)) :=
  ⟨PT.imp (pt_cmpR ho ha.pe hb.pe hm) fun σ H Q q => by
    obtain ⟨B, ρ, μ, QD, QE, g, s, q, k, x⟩ := q
    refine up_op (Q := fun x H' => ∃ k, x = .bl k ∧ Q k H') h ⟨B, ρ, μ, _, QE, g, s, q, ⟨fun v d H1 B1 μ1 e1 g1 r1 q1 => ?_⟩, x⟩
    obtain ⟨b, rfl, q1⟩ := q1
    exact ⟨b, r1.bl_inv, k b H1 B1 μ1 e1 g1 q1⟩⟩
def dAnd (t u : DT) : DT := fun ρ μ Q E => t ρ μ (fun b μ1 => if b = true then u ρ μ1 Q E else Q false μ1) E
def dOr (t u : DT) : DT := fun ρ μ Q E => t ρ μ (fun b μ1 => if b = true then Q true μ1 else u ρ μ1 Q E) E
def dNot (t : DT) : DT := fun ρ μ Q E => t ρ μ (fun b μ1 => Q (!b) μ1) E
theorem RW.rt (h : RW X W e dt) : RT X W e dt := ⟨h.pw.pt⟩
theorem rw_and1 {dt : DT} (h : RT X W a dt) : RW X W (.BoolOp .And [a] pos) dt := ⟨pw_and1 h.pt⟩
theorem rw_or1 {dt : DT} (h : RT X W a dt) : RW X W (.BoolOp .Or [a] pos) dt := ⟨pw_or1 h.pt⟩
theorem rw_and {rest : List Expr} (h : RT X W a dt) (h2 : RW X W (.BoolOp .And (b :: rest) pos) du) : RW X W (.BoolOp .And (a :: b :: rest) pos) (dAnd dt du) :=
  ⟨PW.imp (pw_and h.pt h2.pw) fun σ H Q ⟨B, ρ, μ, QD, QE, g, s, q, k, x⟩ => by
    refine ⟨B, ρ, μ, _, QE, g, s, q, fun b H1 B1 μ1 e1 g1 q1 => ?_, x⟩
    cases b with
    | true => exact ⟨B1, ρ, μ1, QD, QE, g1, s.mono e1, q1, fun b H2 B2 μ2 e2 => k b H2 B2 μ2 (e1.trans e2), x.mono e1⟩
    | false => exact k false H1 B1 μ1 e1 g1 q1⟩
theorem rw_or {rest : List Expr} (h : RT X W a dt) (h2 : RW X W (.BoolOp .Or (b :: rest) pos) du) : RW X W (.BoolOp .Or (a :: b :: rest) pos) (dOr dt du) :=
  ⟨PW.imp (pw_or h.pt h2.pw) fun σ H Q ⟨B, ρ, μ, QD, QE, g, s, q, k, x⟩ => by
    refine ⟨B, ρ, μ, _, QE, g, s, q, fun b H1 B1 μ1 e1 g1 q1 => ?_, x⟩
    cases b with
    | false => exact ⟨B1, ρ, μ1, QD, QE, g1, s.mono e1, q1, fun b H2 B2 μ2 e2 => k b H2 B2 μ2 (e1.trans e2), x.mono e1⟩
    | true => exact k true H1 B1 μ1 e1 g1 q1⟩
theorem rt_not (h : RT X W a dt) : RT X W (.UnaryOp .Not a pos) (dNot dt) :=
  ⟨PT.imp (pt_not h.pt) fun σ H Q ⟨B, ρ, μ, QD, QE, g, s, q, k, x⟩ => ⟨B, ρ, μ, _, QE, g, s, q, fun b H1 B1 μ1 e1 g1 q1 => k _ H1 B1 μ1 e1 g1 q1, x⟩⟩
def dAndV (da db : DE) : DE := fun ρ μ Q E => da ρ μ (fun d μ1 => ∃ b, d = .bl b ∧ if b = true then db ρ μ1 Q E else Q (.bl false) μ1) E
def dOrV (da db : DE) : DE := fun ρ μ Q E => da ρ μ (fun d μ1 => ∃ b, d = .bl b ∧ if b = true then Q (.bl true) μ1 else db ρ μ1 Q E) E
def dNotV (da : DE) : DE := fun ρ μ Q E => da ρ μ (fun d μ1 => ∃ b, d = .bl b ∧ Q (.bl (!b)) μ1) E
theorem re_one {op} (h : RE X W a da) : RE X W (.BoolOp op [a] pos) da := ⟨pe_one h.pe⟩
theorem re_and {rest : List Expr} (h : RE X W a da) (h2 : RE X W (.BoolOp .And (b :: rest) pos) db) : RE X W (.BoolOp .And (a :: b :: rest) pos) (dAndV da db) :=
  ⟨PE.imp (pe_and h.pe h2.pe) fun σ H Q ⟨B, ρ, μ, QD, QE, g, s, q, k, x⟩ => by
    refine ⟨B, ρ, μ, _, QE, g, s, q, ⟨fun v d H1 B1 μ1 e1 g1 r1 q1 => ?_⟩, x⟩
    obtain ⟨b, rfl, q1⟩ := q1
    refine ⟨b, r1.bl_inv, ?_⟩
    cases b with
    | true => exact ⟨B1, ρ, μ1, QD, QE, g1, s.mono e1, q1, k.mono e1, x.mono e1⟩
    | false => exact k.ok _ _ H1 B1 μ1 e1 g1 (.bl false) q1⟩
theorem re_or {rest : List Expr} (h : RE X W a da) (h2 : RE X W (.BoolOp .Or (b :: rest) pos) db) : RE X W (.BoolOp .Or (a :: b :: rest) pos) (dOrV da db) :=
  ⟨PE.imp (pe_or h.pe h2.pe) fun σ H Q ⟨B, ρ, μ, QD, QE, g, s, q, k, x⟩ => by
    refine ⟨B, ρ, μ, _, QE, g, s, q, ⟨fun v d H1 B1 μ1 e1 g1 r1 q1 => ?_⟩, x⟩
    obtain ⟨b, rfl, q1⟩ := q1
    refine ⟨b, r1.bl_inv, ?_⟩
    cases b with
    | false => exact ⟨B1, ρ, μ1, QD, QE, g1, s.mono e1, q1, k.mono e1, x.mono e1⟩
    | true => exact k.ok _ _ H1 B1 μ1 e1 g1 (.bl true) q1⟩
theorem re_not (h : RE X W a da) : RE X W (.UnaryOp .Not a pos) (dNotV da) :=
  ⟨PE.imp (pe_not h.pe) fun σ H Q ⟨B, ρ, μ, QD, QE, g, s, q, k, x⟩ => by
    refine ⟨B, ρ, μ, _, QE, g, s, q, ⟨fun v d H1 B1 μ1 e1 g1 r1 q1 => ?_⟩, x⟩
    obtain ⟨b, rfl, q1⟩ := q1
    exact ⟨b, r1.bl_inv, k.ok _ _ H1 B1 μ1 e1 g1 (.bl _) q1⟩⟩
def dIf (t : DT) (da db : DE) : DE := fun ρ μ Q E => t ρ μ (fun b μ1 => if b = true then da ρ μ1 Q E else db ρ μ1 Q E) E
theorem re_if (h : RT X W c dt) (ha : RE X W a da) (hb : RE X W b db) : RE X W (.IfExp c a b pos) (dIf dt da db) :=
  ⟨PE.imp (pe_ifExp h.pt ha.pe hb.pe) fun σ H Q ⟨B, ρ, μ, QD, QE, g, s, q, k, x⟩ => by
    refine ⟨B, ρ, μ, _, QE, g, s, q, fun b H1 B1 μ1 e1 g1 q1 => ?_, x⟩
    cases b with
    | true => exact ⟨B1, ρ, μ1, QD, QE, g1, s.mono e1, q1, k.mono e1, x.mono e1⟩
    | false => exact ⟨B1, ρ, μ1, QD, QE, g1, s.mono e1, q1, k.mono e1, x.mono e1⟩⟩
/-- a < b < c -/
def dChain (rd rd' : D2) (da db dc : DE) : DE := fun ρ μ Q E => da ρ μ (fun d μ1 => db ρ μ1 (fun e μ2 => rd d e μ2 fun z μ3 => ∃ k, z = .bl k ∧ if k = true then dc ρ μ3 (fun f μ4 => rd' e f μ4 Q) E else Q (.bl false) μ3) E) E
theorem up_chain {K : PySem.W.Frag} {r r' : R2} {rd rd' : D2} (h : OpD K r rd) (h' : OpD K r' rd') {σ : L2.St} {H : Hp} {Q : VK} (q : upE K W (dChain rd rd' da db dc) σ H Q) : tChain r r' (upE K W da) (upE K W db) (upE K W dc) σ H Q := by
  obtain ⟨B, ρ, μ, QD, QE, g, s, q, k, x⟩ := q
  refine ⟨B, ρ, μ, _, QE, g, s, q, ⟨fun v d H1 B1 μ1 e1 g1 r1 q1 => ?_⟩, x⟩
  refine ⟨B1, ρ, μ1, _, QE, g1, s.mono e1, q1, ⟨fun w e H2 B2 μ2 e2 g2 r2 q2 => ?_⟩, x.mono e1⟩
  refine h B2 H2 μ2 v w d e _ _ g2 (r1.mono e2) r2 q2 ⟨fun z f H3 B3 μ3 e3 g3 r3 q3 => ?_⟩
  obtain ⟨b, rfl, q3⟩ := q3
  refine ⟨b, r3.bl_inv, ?_⟩
  cases b with
  | true =>
    refine ⟨B3, ρ, μ3, _, QE, g3, s.mono ((e1.trans e2).trans e3), q3, ⟨fun u f H4 B4 μ4 e4 g4 r4 q4 => ?_⟩, x.mono ((e1.trans e2).trans e3)⟩
    exact h' B4 H4 μ4 w u e f QD Q g4 (r2.mono (e3.trans e4)) r4 q4 (k.mono (((e1.trans e2).trans e3).trans e4))
  | false => exact k.ok _ _ H3 B3 μ3 ((e1.trans e2).trans e3) g3 (.bl false) q3
theorem re_chain {op op' : CmpOp} {r r' : R2} {rd rd' : D2} (ho : OpR X (compareOp op) r) (ho' : OpR X (compareOp op') r') (h : OpD X.K r rd) (h' : OpD X.K r' rd') (ha : RE X W a da) (hb : RE X W b db) (hc : RE X W c dc) (hm : lastMarks [op, op'] [b, c] = false := by with_unfolding_all rfl) :
    RE X W (.Compare a [op, op'] [b, c] pos) (dChain rd rd' da db dc) := ⟨PE.imp (pe_chain ho ho' ha.pe hb.pe hc.pe hm) fun _ _ _ q => up_chain h h' q⟩
end
end DL

/-! The data layer, 2: operators. -/
namespace DL
open PySem PySem.Spec PyProof.Rows L2

theorem sizeLine_lt : sizeLine < 2 ^ 63 := by rw [sizeLine_eq]; decide
/-! ### data as the library's data -/
mutual
def D.py : D → Option PyData
  | .non => some .none
  | .bl b => some (.bool b)
  | .int i => some (.int i)
  | .str x => some (.str x)
  | .lst ds => (pyL ds).map .list
  | .tup ds => (pyL ds).map .tuple
  | _ => none
def pyL : List D → Option (List PyData)
  | [] => some []
  | d :: ds => match d.py, pyL ds with
    | some p, some ps => some (p :: ps)
    | _, _ => none
end
def listOf (μ : Mu) : D → Option (List D)
  | .lst ds => some ds
  | .ref a => match μ a with
    | some (.lst ds) => some ds
    | _ => none
  | _ => none
def seqOf (μ : Mu) : D → Option (List D)
  | .tup ds => some ds
  | .arg ds => some ds
  | .lst ds => some ds
  | .ref a => match μ a with
    | some (.lst ds) => some ds
    | _ => none
  | _ => none
/-- data, a changing list told as it stands -/
def pyM (μ : Mu) : D → Option PyData
  | .ref a => match μ a with
    | some (.lst ds) => (pyL ds).map .list
    | _ => none
  | d => d.py
theorem listOf_inv {μ : Mu} {d : D} {ds : List D} (h : listOf μ d = some ds) : d = .lst ds ∨ ∃ a, d = .ref a ∧ μ a = some (.lst ds) := by
  cases d with
  | lst l => exact .inl (by rw [Option.some.inj h])
  | ref a =>
    right
    refine ⟨a, rfl, ?_⟩
    show μ a = _
    have h : (match μ a with | some (.lst ds) => some ds | _ => none) = some ds := h
    split at h
    · rename_i e
      rw [e, Option.some.inj h]
    · cases h
  | _ => cases h
theorem seqOf_inv {μ : Mu} {d : D} {ds : List D} (h : seqOf μ d = some ds) : d = .tup ds ∨ d = .arg ds ∨ listOf μ d = some ds := by
  cases d with
  | tup l => exact .inl (by rw [Option.some.inj h])
  | arg l => exact .inr (.inl (by rw [Option.some.inj h]))
  | _ => exact .inr (.inr h)
section
variable {K : PySem.W.Frag} {B H : Hp} {μ : Mu} {v x y : V} {d e : D} {ds : List D}
theorem listV (g : Good K B H μ) (r : Rp K B v d) (h : listOf μ d = some ds) : ∃ a xs, v = .ref a ∧ Rd H a (.lst xs) ∧ RpL K B xs ds := by
  rcases listOf_inv h with rfl | ⟨a, rfl, hm⟩
  · obtain ⟨a, xs, rfl, h1, h2⟩ := r.lst_inv
    exact ⟨a, xs, rfl, ext_rd g.ex h1, h2⟩
  · obtain ⟨_, xs, h1, h2⟩ := g.mo a _ hm
    exact ⟨a, xs, r.ref_inv, Or.inl h1, h2⟩
theorem tupV (g : Good K B H μ) (r : Rp K B v (.tup ds)) : ∃ a xs, v = .ref a ∧ SqT K H a xs ∧ RpL K B xs ds := by
  obtain ⟨a, xs, rfl, h1, h2⟩ := r.tup_inv
  exact ⟨a, xs, rfl, ext_t g.ex h1, h2⟩
theorem seqV (g : Good K B H μ) (r : Rp K B v d) (h : seqOf μ d = some ds) : ∃ a xs, v = .ref a ∧ (SqL K H a xs ∨ SqT K H a xs) ∧ RpL K B xs ds := by
  rcases seqOf_inv h with rfl | rfl | h
  · obtain ⟨a, xs, e, h1, h2⟩ := tupV g r
    exact ⟨a, xs, e, .inr h1, h2⟩
  · obtain ⟨a, xs, e, h1, h2⟩ := r.arg_inv
    exact ⟨a, xs, e, .inl (ext_l g.ex h1), h2⟩
  · obtain ⟨a, xs, e, h1, h2⟩ := listV g r h
    exact ⟨a, xs, e, .inl (.inl h1), h2⟩
end
mutual
theorem Rp.dp {K : PySem.W.Frag} {B : Hp} : ∀ {v : V} {d : D} {p : PyData}, Rp K B v d → d.py = some p → Dp K B v p
  | _, _, _, .non, e => by simp only [D.py, Option.some.injEq] at e; subst e; exact .non
  | _, _, _, .bl b, e => by simp only [D.py, Option.some.injEq] at e; subst e; exact .bl b
  | _, _, _, .int i, e => by simp only [D.py, Option.some.injEq] at e; subst e; exact .int i
  | _, _, _, .str x, e => by simp only [D.py, Option.some.injEq] at e; subst e; exact .str x
  | _, _, _, .lst h r, e => by
    simp only [D.py, Option.map_eq_some_iff] at e
    obtain ⟨ps, e, rfl⟩ := e
    exact .lst (.inl h) (RpL.dp r e)
  | _, _, _, .tup h r, e => by
    simp only [D.py, Option.map_eq_some_iff] at e
    obtain ⟨ps, e, rfl⟩ := e
    exact .tup h (RpL.dp r e)
  | _, _, _, .arg _ _, e => by simp only [D.py] at e; cases e
  | _, _, _, .ins _ _ _, e => by simp only [D.py] at e; cases e
  | _, _, _, .cls _, e => by simp only [D.py] at e; cases e
  | _, _, _, .fn _ _, e => by simp only [D.py] at e; cases e
  | _, _, _, .exc _ _, e => by simp only [D.py] at e; cases e
  | _, _, _, .excD _ _ _ _, e => by simp only [D.py] at e; cases e
  | _, _, _, .ref _, e => by simp only [D.py] at e; cases e
  | _, _, _, .ty _, e => by simp only [D.py] at e; cases e
theorem RpL.dp {K : PySem.W.Frag} {B : Hp} : ∀ {v : List V} {d : List D} {p : List PyData}, RpL K B v d → pyL d = some p → DpAll K B v p
  | _, _, _, .nil, e => by simp only [pyL, Option.some.injEq] at e; subst e; exact .nil
  | _, _, _, .cons h r, e => by
    simp only [pyL] at e
    split at e
    · rename_i a b
      cases e
      exact .cons (Rp.dp h a) (RpL.dp r b)
    · cases e
end
mutual
theorem Dp.ext {K : PySem.W.Frag} {B H : Hp} (x : Ext B H) : ∀ {v : V} {d : PyData}, Dp K B v d → Dp K H v d
  | _, _, .non => .non
  | _, _, .bl b => .bl b
  | _, _, .int b => .int b
  | _, _, .str b => .str b
  | _, _, .lst h r => .lst (ext_l x h) (DpAll.ext x r)
  | _, _, .tup h r => .tup (ext_t x h) (DpAll.ext x r)
theorem DpAll.ext {K : PySem.W.Frag} {B H : Hp} (x : Ext B H) : ∀ {v : List V} {d : List PyData}, DpAll K B v d → DpAll K H v d
  | _, _, .nil => .nil
  | _, _, .cons h r => .cons (Dp.ext x h) (DpAll.ext x r)
end
theorem pyM_dp {K : PySem.W.Frag} {B H : Hp} {μ : Mu} {v : V} {d : D} {p : PyData} (g : Good K B H μ) (r : Rp K B v d) (h : pyM μ d = some p) : Dp K H v p := by
  cases d with
  | ref a =>
    have h : (match μ a with | some (.lst ds) => (pyL ds).map PyData.list | _ => none) = some p := h
    split at h
    · rename_i ds e
      obtain ⟨ps, h1, rfl⟩ := Option.map_eq_some_iff.mp h
      obtain ⟨_, xs, h2, h3⟩ := g.mo a _ e
      rw [r.ref_inv]
      exact .lst (Or.inl (Or.inl h2)) (DpAll.ext g.ex (h3.dp h1))
    · cases h
  | _ => exact Dp.ext g.ex (r.dp h)

/-! ### the operators -/
theorem rd_obj {X : Cx} {pins : List (Addr × Obj)} {σ : L2.St} {H : Hp} {s : Shared} {l : Addr} {xs : List V} (I : L2.Inv X pins σ H s) (h : Rd H l (.lst xs)) : xs.length ≤ sizeLine ∧ ∃ (its : List Value) (n : Nat), Vals xs its ∧ xs.length = its.length ∧ s.heap.get? l = some { cls := .type "list", data := .seq its.toArray n } := by
  rcases h with h | ⟨o, h⟩
  · exact I.lstM h
  · obtain ⟨_, hz, its, n, r, e⟩ := I.hok _ _ h
    exact ⟨hz, its, n, r, r.length, e⟩
theorem OpD.mk {K : PySem.W.Frag} {r : R2} {rd : D2} (h : ∀ B H μ x y d e QD Q, Good K B H μ → Rp K B x d → Rp K B y e → rd d e μ QD → Kt K B Q QD → r x y H Q) : OpD K r rd := h
section
variable {X : Cx}
/-- list + list, any two lists -/
def rCatL : R2 := fun x y H Q => ∃ l b xs zs, x = .ref l ∧ y = .ref b ∧ Rd H l (.lst xs) ∧ Rd H b (.lst zs) ∧ xs.length + zs.length ≤ sizeLine ∧ ∀ p, H p = none → Q (.ref p) (upd H p (.lst (xs ++ zs)))
theorem op_catL : OpR X (binaryOp .Add) rCatL := by
  intro pins s σ H x y v u Q I rx ry h
  obtain ⟨l, b, xs, zs, rfl, rfl, hH, hB, hz, q⟩ := h
  cases rx
  cases ry
  obtain ⟨z, its, n, r, hl, e1⟩ := rd_obj I hH
  obtain ⟨z2, its2, n2, r2, hl2, e2⟩ := rd_obj I hB
  refine PySem.P.add_list e1 e2 ?_ (by rw [List.size_toArray, List.size_toArray]; omega)
  have ea : its.toArray ++ its2.toArray = (its ++ its2).toArray := by simp
  rw [ea]
  exact ⟨.ref _, _, I.lnew (t' := s.toks) (r.append r2) (by rw [List.length_append]; omega), rfl, q _ I.fresh⟩
def rAddAll (K : PySem.W.Frag) : R2 := fun x y H Q => (rI0 fun i j => .int (i + j)) x y H Q ∨ rCatA K x y H Q ∨ (∃ i j, x = .str i ∧ y = .str j ∧ i.length + j.length ≤ sizeLine ∧ Q (.str (i ++ j)) H) ∨ rCatL x y H Q
theorem op_addAll : OpR X (binaryOp .Add) (rAddAll X.K) := op_add.or (op_catA.or (op_add_str.or op_catL))
/-- d + e -/
def rdAdd : D2 := fun d e μ Q => match d, e with
  | .int i, .int j => Q (.int (i + j)) μ
  | .tup a, .tup b => a.length + b.length ≤ sizeLine ∧ Q (.tup (a ++ b)) μ
  | .str a, .str b => a.length + b.length ≤ sizeLine ∧ Q (.str (a ++ b)) μ
  | d, e => ∃ a b, listOf μ d = some a ∧ listOf μ e = some b ∧ a.length + b.length ≤ sizeLine ∧ Q (.lst (a ++ b)) μ
theorem catTup {K : PySem.W.Frag} {B H : Hp} {μ : Mu} {x y : V} {a b : List D} {QD : DQ} {Q : VK} (g : Good K B H μ) (rx : Rp K B x (.tup a)) (ry : Rp K B y (.tup b)) (hz : a.length + b.length ≤ sizeLine) (q : QD (.tup (a ++ b)) μ) (k : Kt K B Q QD) : rCatA K x y H Q := by
  have rx' := rx
  have ry' := ry
  obtain ⟨p, xs, rfl, h1, h2⟩ := tupV g rx
  obtain ⟨p', ys, rfl, h3, h4⟩ := tupV g ry
  refine ⟨p, p', xs, ys, rfl, rfl, h1, h3, by rw [h2.length, h4.length]; exact hz, fun z => ?_, fun _ z => ?_, fun _ _ q' hq' => ?_⟩
  · subst z
    cases h2
    exact k.ok _ _ H B μ Ext.rfl' g ry' q
  · subst z
    cases h4
    rw [List.append_nil] at q
    exact k.ok _ _ H B μ Ext.rfl' g rx' q
  · exact k.ok _ _ _ _ μ (Ext.new (g.freeB hq')) (g.still hq') (.tup (Or.inl (Or.inl upd_same)) ((h2.append h4).mono (Ext.new (g.freeB hq')))) q
theorem catLst {K : PySem.W.Frag} {B H : Hp} {μ : Mu} {x y : V} {d e : D} {a b : List D} {QD : DQ} {Q : VK} (g : Good K B H μ) (rx : Rp K B x d) (ry : Rp K B y e) (h1 : listOf μ d = some a) (h2 : listOf μ e = some b) (hz : a.length + b.length ≤ sizeLine) (q : QD (.lst (a ++ b)) μ) (k : Kt K B Q QD) : rCatL x y H Q := by
  obtain ⟨p, xs, rfl, h3, h4⟩ := listV g rx h1
  obtain ⟨p', ys, rfl, h5, h6⟩ := listV g ry h2
  exact ⟨p, p', xs, ys, rfl, rfl, h3, h5, by rw [h4.length, h6.length]; exact hz, fun q' hq' => k.ok _ _ _ _ μ (Ext.new (g.freeB hq')) (g.still hq') (.lst (Or.inl upd_same) ((h4.append h6).mono (Ext.new (g.freeB hq')))) q⟩
theorem od_add {K : PySem.W.Frag} : OpD K (rAddAll K) rdAdd := by
  intro B H μ x y d e QD Q g rx ry q k
  unfold rdAdd at q
  split at q
  · exact .inl ⟨_, _, rx.int_inv, ry.int_inv, k.ok _ _ H B μ Ext.rfl' g (.int _) q⟩
  · exact .inr (.inl (catTup g rx ry q.1 q.2 k))
  · exact .inr (.inr (.inl ⟨_, _, rx.str_inv, ry.str_inv, q.1, k.ok _ _ H B μ Ext.rfl' g (.str _) q.2⟩))
  · obtain ⟨a, b, h1, h2, hz, q⟩ := q
    exact .inr (.inr (.inr (catLst g rx ry h1 h2 hz q k)))
/-- list + list, the new one to be changed -/
def rdCatM : D2 := fun d e μ Q => ∃ a b, listOf μ d = some a ∧ listOf μ e = some b ∧ a.length + b.length ≤ sizeLine ∧ ∀ p, μ p = none → Q (.ref p) (mset μ p (.lst (a ++ b)))
theorem od_catM {K : PySem.W.Frag} : OpD K (rAddAll K) rdCatM := by
  intro B H μ x y d e QD Q g rx ry ⟨a, b, h1, h2, hz, q⟩ k
  obtain ⟨p, xs, rfl, h3, h4⟩ := listV g rx h1
  obtain ⟨p', ys, rfl, h5, h6⟩ := listV g ry h2
  exact .inr (.inr (.inr ⟨p, p', xs, ys, rfl, rfl, h3, h5, by rw [h4.length, h6.length]; exact hz, fun q' hq' => k.ok _ _ _ _ _ Ext.rfl' (g.fresh (m := .lst (a ++ b)) hq' ⟨_, upd_same, h4.append h6⟩) (.ref _) (q q' (g.free hq'))⟩))
/-- numbers alone -/
def rdI (C : Int → Int → Prop) (f : Int → Int → Int) : D2 := fun d e μ Q => match d, e with
  | .int i, .int j => C i j ∧ Q (.int (f i j)) μ
  | _, _ => False
def rdI0 (f : Int → Int → Int) : D2 := fun d e μ Q => match d, e with
  | .int i, .int j => Q (.int (f i j)) μ
  | _, _ => False
def rdB0 (f : Int → Int → Bool) : D2 := fun d e μ Q => match d, e with
  | .int i, .int j => Q (.bl (f i j)) μ
  | _, _ => False
theorem od_I {K : PySem.W.Frag} {C : Int → Int → Prop} {f : Int → Int → Int} : OpD K (rI C fun i j => .int (f i j)) (rdI C f) := by
  intro B H μ x y d e QD Q g rx ry q k
  unfold rdI at q
  split at q
  · exact ⟨_, _, rx.int_inv, ry.int_inv, q.1, k.ok _ _ H B μ Ext.rfl' g (.int _) q.2⟩
  · exact q.elim
theorem od_I0 {K : PySem.W.Frag} {f : Int → Int → Int} : OpD K (rI0 fun i j => .int (f i j)) (rdI0 f) := by
  intro B H μ x y d e QD Q g rx ry q k
  unfold rdI0 at q
  split at q
  · exact ⟨_, _, rx.int_inv, ry.int_inv, k.ok _ _ H B μ Ext.rfl' g (.int _) q⟩
  · exact q.elim
theorem od_B0 {K : PySem.W.Frag} {f : Int → Int → Bool} : OpD K (rI0 fun i j => .bl (f i j)) (rdB0 f) := by
  intro B H μ x y d e QD Q g rx ry q k
  unfold rdB0 at q
  split at q
  · exact ⟨_, _, rx.int_inv, ry.int_inv, k.ok _ _ H B μ Ext.rfl' g (.bl _) q⟩
  · exact q.elim
/-- d * e: numbers; a list or a tuple times a number -/
def rRepL (K : PySem.W.Frag) : R2 := fun x y H Q => ∃ l k xs, x = .ref l ∧ y = .int k ∧ H l = some (.lst xs) ∧ -(2 ^ 63) ≤ k ∧ k < 2 ^ 63 ∧ xs.length * k.toNat ≤ sizeLine ∧
  ∀ p, H p = none → Q (.ref p) (upd H p (.lst (List.replicate k.toNat xs).flatten))
/-- xs[::-1] data of it is -/
theorem RpL.flat {K : PySem.W.Frag} {B : Hp} {xs : List V} {ds : List D} (r : RpL K B xs ds) : ∀ n : Nat, RpL K B (List.replicate n xs).flatten (List.replicate n ds).flatten
  | 0 => .nil
  | n + 1 => by
    rw [List.replicate_succ, List.replicate_succ, List.flatten_cons, List.flatten_cons]
    exact r.append (RpL.flat r n)
/-- equal -/
def rEqX (K : PySem.W.Frag) : R2 := fun x y H Q => rEqD K x y H Q ∨ ∃ a b, x = .str a ∧ y = .str b ∧ Q (.bl (decide (a = b))) H
def rNeX (K : PySem.W.Frag) : R2 := fun x y H Q => rNeD K x y H Q ∨ ∃ a b, x = .str a ∧ y = .str b ∧ Q (.bl (!decide (a = b))) H
section
variable {X : Cx}
theorem op_eqX (hu : X.A.units + 64 < cLine) : OpR X (compareOp .Eq) (rEqX X.K) := (op_eqD hu).or (by
  intro pins s σ H x y v u Q I rx ry ⟨a, b, hx, hy, q⟩
  subst hx hy
  obtain ⟨t, rfl⟩ := rx
  obtain ⟨t', rfl⟩ := ry
  refine PyProof.Rows.eq_str ⟨.bl _, H, I, ?_, q⟩
  show Value.bool (a == b) = Value.bool _
  first
    | rfl
    | (congr 1
       by_cases c : a = b
       · subst c; simp
       · simp [c]))
theorem op_neX (hu : X.A.units + 64 < cLine) : OpR X (compareOp .NotEq) (rNeX X.K) := (op_neD hu).or (by
  intro pins s σ H x y v u Q I rx ry ⟨a, b, hx, hy, q⟩
  subst hx hy
  obtain ⟨t, rfl⟩ := rx
  obtain ⟨t', rfl⟩ := ry
  refine PyProof.Rows.ne_str ⟨.bl _, H, I, ?_, q⟩
  show Value.bool (a != b) = Value.bool _
  first
    | rfl
    | (congr 1
       by_cases c : a = b
       · subst c; simp
       · simp [c]))
end
def rdEq (s : Bool) : D2 := fun d e μ Q => (∃ p q, pyM μ d = some p ∧ pyM μ e = some q ∧ SeqAt.shaped p = true ∧ SeqAt.shaped q = true ∧ Q (.bl (PyData.eqv p q ^^ s)) μ) ∨ ∃ a b, d = .str a ∧ e = .str b ∧ Q (.bl (decide (a = b) ^^ s)) μ
theorem od_eq {K : PySem.W.Frag} : OpD K (rEqX K) (rdEq false) := by
  intro B H μ x y d e QD Q g rx ry h k
  rcases h with ⟨p, q, h1, h2, h3, h4, h5⟩ | ⟨a, b, rfl, rfl, h5⟩
  · rw [Bool.xor_false] at h5
    exact .inl ⟨p, q, pyM_dp g rx h1, pyM_dp g ry h2, h3, h4, k.ok _ _ H B μ Ext.rfl' g (.bl _) h5⟩
  · rw [Bool.xor_false] at h5
    exact .inr ⟨a, b, rx.str_inv, ry.str_inv, k.ok _ _ H B μ Ext.rfl' g (.bl _) h5⟩
theorem od_ne {K : PySem.W.Frag} : OpD K (rNeX K) (rdEq true) := by
  intro B H μ x y d e QD Q g rx ry h k
  rcases h with ⟨p, q, h1, h2, h3, h4, h5⟩ | ⟨a, b, rfl, rfl, h5⟩
  · rw [Bool.xor_true] at h5
    exact .inl ⟨p, q, pyM_dp g rx h1, pyM_dp g ry h2, h3, h4, k.ok _ _ H B μ Ext.rfl' g (.bl _) h5⟩
  · rw [Bool.xor_true] at h5
    exact .inr ⟨a, b, rx.str_inv, ry.str_inv, k.ok _ _ H B μ Ext.rfl' g (.bl _) h5⟩
/-- an item by its place -/
def rdIx : D2 := fun d e μ Q => match e with
  | .int i => ∃ ds, seqOf μ d = some ds ∧ ∃ x, atI ds i = some x ∧ Q x μ
  | _ => False
theorem atI_R {K : PySem.W.Frag} {B : Hp} {xs : List V} {ds : List D} {i : Int} {d : D} (r : RpL K B xs ds) (h : atI ds i = some d) : ∃ v, atI xs i = some v ∧ Rp K B v d := by
  unfold atI at h ⊢
  rw [r.length]
  cases e : ixN ds.length i with
  | none => rw [e] at h; cases h
  | some j =>
    rw [e] at h
    exact r.get h
theorem od_ix {K : PySem.W.Frag} : OpD K (rIx K) rdIx := by
  intro B H μ x y d e QD Q g rx ry q k
  unfold rdIx at q
  split at q
  case h_2 => exact q.elim
  rename_i i
  obtain ⟨ds, h1, z, h3, h4⟩ := q
  obtain ⟨a, xs, rfl, hs, rl⟩ := seqV g rx h1
  obtain ⟨v, hv, rv⟩ := atI_R rl h3
  rcases hs with hs | hs
  · exact .inl ⟨a, xs, i, v, rfl, ry.int_inv, hs, hv, k.ok _ _ H B μ Ext.rfl' g rv h4⟩
  · exact .inr (.inl ⟨a, xs, i, v, rfl, ry.int_inv, hs, hv, k.ok _ _ H B μ Ext.rfl' g rv h4⟩)
/-- is None, is not None -/
def D.isN : D → Bool
  | .non => true
  | _ => false
def dIsN (s : Bool) (da : DE) : DE := fun ρ μ Q E => da ρ μ (fun d μ1 => Q (.bl (d.isN ^^ s)) μ1) E
theorem Rp.isN {K : PySem.W.Frag} {B : Hp} {v : V} {d : D} (r : Rp K B v d) : decide (v = .non) = d.isN := by
  cases r <;> first | rfl | (simp [D.isN])
theorem re_isN {W : WX} {a : Expr} {da : DE} {j pos pos'} (ha : RE X W a da) : RE X W (.Compare a [.Is] [.Constant .none j pos'] pos) (dIsN false da) :=
  ⟨PE.imp (pe_cmp (pc_isN ha.pe) rfl) fun σ H Q ⟨B, ρ, μ, QD, QE, g, s, q, k, x⟩ => ⟨B, ρ, μ, _, QE, g, s, q, ⟨fun v d H1 B1 μ1 e1 g1 r1 q1 => by
    rw [r1.isN]
    rw [Bool.xor_false] at q1
    exact k.ok _ _ H1 B1 μ1 e1 g1 (.bl _) q1⟩, x⟩⟩
theorem re_notN {W : WX} {a : Expr} {da : DE} {j pos pos'} (ha : RE X W a da) : RE X W (.Compare a [.IsNot] [.Constant .none j pos'] pos) (dIsN true da) :=
  ⟨PE.imp (pe_cmp (pc_notN ha.pe) rfl) fun σ H Q ⟨B, ρ, μ, QD, QE, g, s, q, k, x⟩ => ⟨B, ρ, μ, _, QE, g, s, q, ⟨fun v d H1 B1 μ1 e1 g1 r1 q1 => by
    rw [r1.isN]
    rw [Bool.xor_true] at q1
    exact k.ok _ _ H1 B1 μ1 e1 g1 (.bl _) q1⟩, x⟩⟩
end
end DL

/-! The data layer, 3: slices, arguments, displays, calls. -/
namespace HT
open PySem PySem.Calls PyProof.Rows
section
variable {prog : Program} {w : World} {A : Around} {E : Value → Shared → Prop} {s : Shared}
theorem adjust_rev (n : Nat) : Builtin.Slice.sliceAdjust none none (-1) (n : Int) = ((n : Int) - 1, -1) := by
  unfold Builtin.Slice.sliceAdjust
  simp
theorem places_rev (n : Nat) : Builtin.Slice.slicePlaces ((n : Int) - 1) (-1) (-1) = n := by
  unfold Builtin.Slice.slicePlaces
  simp
  try omega
theorem fm_congr {α β : Type} {f g : α → Option β} : ∀ {l : List α}, (∀ m ∈ l, f m = g m) → l.filterMap f = l.filterMap g
  | [], _ => rfl
  | a :: l, h => by
    rw [List.filterMap_cons, List.filterMap_cons, h a (List.mem_cons_self ..), fm_congr fun m hm => h m (List.mem_cons_of_mem _ hm)]
theorem pick_rev (xs : Array Value) : ((List.range xs.size).filterMap fun (m : Nat) => xs[(((xs.size : Int) - 1) + (m : Int) * (-1)).toNat]?).toArray = xs.toList.reverse.toArray := by
  have e : ∀ m ∈ List.range xs.size, xs[(((xs.size : Int) - 1) + (m : Int) * (-1)).toNat]? = xs[xs.size - 1 - m]? := fun m hm => by
    have := List.mem_range.mp hm
    have q : (((xs.size : Int) - 1) + (m : Int) * (-1)).toNat = xs.size - 1 - m := by omega
    rw [q]
  rw [fm_congr e]
  have h2 : (fun m : Nat => xs[xs.size - 1 - m]?) = (xs[·]?) ∘ (fun m => xs.size - 1 - m) := rfl
  rw [h2, ← List.filterMap_map, PySem.W.krv_range, List.filterMap_reverse, PySem.W.krv_all]
theorem getItem_tuple_rev {t sl : Addr} {items : Array Value} {vs : Value} {Q : Value → Shared → Prop} (ht : IsTup s.heap t items) (hs : s.heap.IsSliceOf sl .none .none vs) (ps : IsPart vs (some (-1)))
    (h : Q (.ref s.heap.objs.size) { s with heap := s.heap.push { cls := .type "tuple", data := .seq items.toList.reverse.toArray } })
    (hsz : items.size ≤ sizeLine) : wpAny (model prog w) A (getItem (.ref t) (.ref sl)) Q E s := by
  have htake : sizeOk (.seq items.toList.reverse.toArray) := by
    show items.toList.reverse.toArray.size ≤ sizeLine
    rw [List.size_toArray, List.length_reverse, Array.length_toList]
    omega
  obtain ⟨os, hos, hcs, hds⟩ := id hs
  have hTs : s.TypeIs (.ref sl) "slice" := ⟨os, hos, hcs⟩
  unfold getItem
  try with_reducible refine wpAny_holding ?_
  first | refine wpAny_bind (wpAny_pure ?_) | skip
  refine wpAny_bind (wpAny_sequenceKey ht.typeIs (by decide) ?_)
  refine wpAny_bind (wpAny_callSpecial?_slot (name := Str.ofString "__getitem__") ht.typeIs PyProof.Rows.slot_tuple_getitem
    (wpAny_call_entry PyProof.Rows.slot_tuple_getitem ht.typeIs entry_tuple_getitem ?_ (args_tuple_getitem _ _)))
  show wpAny _ _ (Builtin.Tuple.tupleItemsOf (.ref t) >>= _) _ _ s
  refine wpAny_bind (tupleItemsOf_ ht ?_)
  refine wpAny_bind (wpAny_typeOf hTs ?_)
  rw [if_pos (by decide)]
  have app : ∀ (Q' : Int × Int × Nat → Shared → Prop), Q' ((items.size : Int) - 1, -1, items.size) s → wpAny (model prog w) (A.in1) (Builtin.Slice.sliceApplied (.ref sl) (pure (items.size : Int))) Q' E s ∧ wpAny (model prog w) A (Builtin.Slice.sliceApplied (.ref sl) (pure (items.size : Int))) Q' E s := fun Q' q => by
    constructor <;>
    · unfold Builtin.Slice.sliceApplied Builtin.Slice.sliceFields
      refine wpAny_bind (wpAny_bind (wpAny_field hos hds (x := .none) rfl (wpAny_bind (wpAny_field hos hds (x := .none) rfl (wpAny_bind (wpAny_field hos hds (x := vs) rfl (wpAny_pure ?_)))))))
      refine wpAny_bind (slicePart_ ps ?_)
      show wpAny _ _ (if ((-1 : Int) == 0) = true then _ else _) _ _ s
      rw [if_neg (by decide)]
      refine wpAny_bind (slicePart_none (wpAny_bind (slicePart_none (wpAny_bind (wpAny_pure ?_)))))
      show wpAny _ _ (match Builtin.Slice.sliceAdjust none none (-1) (items.size : Int) with | (lo, hi) => pure (lo, (-1 : Int), Builtin.Slice.slicePlaces lo hi (-1))) _ _ s
      rw [adjust_rev]
      show wpAny _ _ (pure ((items.size : Int) - 1, (-1 : Int), Builtin.Slice.slicePlaces ((items.size : Int) - 1) (-1) (-1))) _ _ s
      rw [places_rev]
      exact wpAny_pure q
  refine wpAny_bind ?_
  first | refine (app _ ?_).1 | refine (app _ ?_).2 | skip
  have hno : ¬ ((((items.size : Int) - 1) == 0 && (-1 : Int) == 1 && items.size == items.size) = true) := by
    intro q
    rw [Bool.and_eq_true, Bool.and_eq_true] at q
    exact absurd q.1.2 (by decide)
  show wpAny _ _ (if (((items.size : Int) - 1) == 0 && (-1 : Int) == 1 && items.size == items.size) = true then _ else _) _ _ s
  rw [if_neg hno, pick_rev]
  first
    | exact wpAny_bind (m := Builtin.Tuple.tupleExact _) (wpAny_newObj_type (wpAny_pure ⟨_, rfl, wpAny_pure h⟩) htake)
    | exact wpAny_bind (m := Builtin.Tuple.tupleExact _) (wpAny_newObj_type (wpAny_bind (wpAny_pure (wpAny_pure ⟨_, rfl, wpAny_pure h⟩))) htake)
    | exact wpAny_bind (wpAny_bind (m := Builtin.Tuple.tupleExact _) (wpAny_newObj_type (wpAny_pure (wpAny_pure ⟨_, rfl, wpAny_pure h⟩)) htake))
    | exact wpAny_bind (wpAny_bind (m := Builtin.Tuple.tupleExact _) (wpAny_newObj_type (wpAny_pure ⟨_, rfl, wpAny_pure h⟩) htake))
end
end HT
namespace DL
open PySem PySem.Spec PyProof.Rows L2
section
variable {X : Cx} {W : WX} {e a b c : Expr} {es : List Expr} {da db dc : DE} {dt du : DT} {dr : DA} {pos : Pos}
/-! ### x[::-1], a list or a tuple -/
def tRevA (K : PySem.W.Frag) (te : TE) : TE := fun σ H Q => te σ H fun x H1 => ∃ a xs, x = .ref a ∧ ((SqL K H1 a xs ∧ ∀ p, H1 p = none → Q (.ref p) (upd H1 p (.lst xs.reverse))) ∨ (SqT K H1 a xs ∧ ∀ p, H1 p = none → Q (.ref p) (upd H1 p (.tup xs.reverse))))
theorem pe_revA {e : Expr} {te : TE} {k : Nat} {p1 p2 p3 pos : Pos} (he : PE X e te) : PE X (.Subscript e (.Slice none none (some (.UnaryOp .USub (.Constant (.int 1) k p1) p2)) p3) pos) (tRevA X.K te) := by
  refine ⟨fun pins s σ H Q I h => ?_⟩
  refine Subscript_ (thn (he.run pins s σ H _ I h) fun v s1 ⟨x, H1, I1, r1, q1⟩ => ?_)
  obtain ⟨a, xs, ex, q⟩ := q1
  subst ex
  cases r1
  have hst : PO X (some (.UnaryOp .USub (.Constant (.int 1) k p1) p2)) (tPart (tUn (rU fun i => .int (-i)) (tC (.int 1)))) := po_some (pe_un un_neg pe_int)
  refine wpAny_Slice (thn (po_none.run pins s1 σ H1 (fun o H2 => o = none ∧ H2 = H1) I1 ⟨rfl, rfl⟩) fun vl s2 ⟨l, H2, I2, pl, el, e2⟩ => ?_)
  subst el e2
  refine thn (po_none.run pins s2 σ H2 (fun o H3 => o = none ∧ H3 = H2) I2 ⟨rfl, rfl⟩) fun vu s3 ⟨u, H3, I3, pu, eu, e3⟩ => ?_
  subst eu e3
  refine thn (hst.run pins s3 σ H3 (fun o H4 => o = some (-1) ∧ H4 = H3) I3 ⟨1, rfl, -1, rfl, rfl, rfl⟩) fun vs s4 ⟨o, H4, I4, ps, eo, e4⟩ => ?_
  subst eo e4
  have I5 : Inv X pins σ H4 { s4 with heap := s4.heap.push { cls := .type "slice", data := .fields #[vl, vu, vs] } } := I4.kept (t' := s4.toks) fun b ob q => Heap.get?_push_of_some _ q
  show wpAny (model X.prog X.w) X.A (subscriptTail e (.Slice none none (some (.UnaryOp .USub (.Constant (.int 1) k p1) p2)) p3) (.ref a) (.ref s4.heap.objs.size)) (EP X pins σ Q) X.xe { s4 with heap := s4.heap.push { cls := .type "slice", data := .fields #[vl, vu, vs] } }
  cases pl
  cases pu
  rcases q with ⟨hx, q⟩ | ⟨hx, q⟩
  · obtain ⟨its, r, ht, hz⟩ := I5.list hx
    have hlen := r.length
    refine tail_any (ops := [.ref a, .ref s4.heap.objs.size]) ht.isList.typeIs (PySem.slot_list_getitem.lookup) ?_ (by with_unfolding_all rfl)
    refine wpAny_getItem_list_slice ht.isList (Heap.IsSliceOf.new _ _ _ vs) .none .none ps (by decide) ?_ (by rw [List.size_toArray]; omega)
    rw [PySem.W.krv_pick]
    refine ⟨.ref _, _, I5.laid (t' := s4.toks) (o := .lst xs.reverse) (fun b ob q => Heap.get?_push_of_some _ q) (Nat.le_refl _) ?_, rfl, q _ (I5.hok.fresh (Nat.le_refl _))⟩
    exact ⟨by rw [List.length_reverse]; exact hz, _, 0, r.reverse, Heap.get?_push_size _ rfl⟩
  · obtain ⟨its, r, ht, hz⟩ := I5.tuple hx
    have hlen := r.length
    refine tail_any (ops := [.ref a, .ref s4.heap.objs.size]) ht.typeIs (PyProof.Rows.slot_tuple_getitem.lookup) ?_ (by with_unfolding_all rfl)
    refine HT.getItem_tuple_rev ht (Heap.IsSliceOf.new _ _ _ vs) ps ?_ (by rw [List.size_toArray]; omega)
    refine ⟨.ref _, _, I5.laid (t' := s4.toks) (o := .tup xs.reverse) (fun b ob q => Heap.get?_push_of_some _ q) (Nat.le_refl _) ?_, rfl, q _ (I5.hok.fresh (Nat.le_refl _))⟩
    exact ⟨by rw [List.length_reverse]; exact hz, _, r.reverse, IsTup.new _ _⟩
def dRev (da : DE) : DE := fun ρ μ Q E => da ρ μ (fun d μ1 => match d with
  | .tup ds => Q (.tup ds.reverse) μ1
  | d => ∃ ds, listOf μ1 d = some ds ∧ Q (.lst ds.reverse) μ1) E
theorem re_rev {k : Nat} {p1 p2 p3 : Pos} (ha : RE X W a da) : RE X W (.Subscript a (.Slice none none (some (.UnaryOp .USub (.Constant (.int 1) k p1) p2)) p3) pos) (dRev da) :=
  ⟨PE.imp (pe_revA ha.pe) fun σ H Q ⟨B, ρ, μ, QD, QE, g, s, q, k, x⟩ => ⟨B, ρ, μ, _, QE, g, s, q, ⟨fun v d H1 B1 μ1 e1 g1 r1 q1 => by
    split at q1
    · obtain ⟨p, xs, rfl, h1, h2⟩ := tupV g1 r1
      exact ⟨p, xs, rfl, .inr ⟨h1, fun q' hq' => k.ok _ _ _ _ μ1 (e1.trans (Ext.new (g1.freeB hq'))) (g1.still hq') (.tup (Or.inl (Or.inl upd_same)) (h2.reverse.mono (Ext.new (g1.freeB hq')))) q1⟩⟩
    · obtain ⟨ds, hd, q1⟩ := q1
      obtain ⟨p, xs, rfl, h1, h2⟩ := listV g1 r1 hd
      exact ⟨p, xs, rfl, .inl ⟨.inl h1, fun q' hq' => k.ok _ _ _ _ μ1 (e1.trans (Ext.new (g1.freeB hq'))) (g1.still hq') (.lst (Or.inl upd_same) (h2.reverse.mono (Ext.new (g1.freeB hq')))) q1⟩⟩⟩, x⟩⟩
/-! ### x[lo:hi] -/
def cutD {α : Type} (xs : List α) (lo hi : Option Int) : List α := (xs.drop (HT.sIx xs.length 0 lo)).take (HT.sIx xs.length xs.length hi - HT.sIx xs.length 0 lo)
theorem RpL.cut {K : PySem.W.Frag} {B : Hp} {xs : List V} {ds : List D} (r : RpL K B xs ds) (lo hi : Option Int) : RpL K B (cutV xs lo hi) (cutD ds lo hi) := by
  unfold cutV cutD
  rw [r.length]
  exact (r.drop _).take _
def upO (K : PySem.W.Frag) (W : WX) (dO : Rho → Mu → (Option Int → Mu → Prop) → XQ → Prop) : TO := fun σ H Q => ∃ B ρ μ QD QE, Good K B H μ ∧ SlR K B σ ρ ∧ dO ρ μ QD QE ∧ (∀ o H2 B2 μ2, Ext B B2 → Good K B2 H2 μ2 → QD o μ2 → Q o H2) ∧ KtX K W B σ QE
abbrev DO := Rho → Mu → (Option Int → Mu → Prop) → XQ → Prop
structure RO (X : Cx) (W : WX) (e : Option Expr) (dO : DO) : Prop where
  po : PO X e (upO X.K W dO)
def oNone : DO := fun _ μ Q _ => Q none μ
def oSome (da : DE) : DO := fun ρ μ Q E => da ρ μ (fun d μ1 => ∃ i, d = .int i ∧ Q (some i) μ1) E
theorem PO.imp {e : Option Expr} {t t' : TO} (h : PO X e t) (i : ∀ σ H Q, t' σ H Q → t σ H Q) : PO X e t' := ⟨fun pins s σ H Q I q => h.run pins s σ H Q I (i σ H Q q)⟩
theorem ro_none : RO X W none oNone := ⟨PO.imp po_none fun σ H Q ⟨B, ρ, μ, QD, QE, g, s, q, k, x⟩ => k none H B μ Ext.rfl' g q⟩
theorem ro_some (ha : RE X W a da) : RO X W (some a) (oSome da) := ⟨PO.imp (po_some ha.pe) fun σ H Q ⟨B, ρ, μ, QD, QE, g, s, q, k, x⟩ => ⟨B, ρ, μ, _, QE, g, s, q, ⟨fun v d H1 B1 μ1 e1 g1 r1 q1 => by
  obtain ⟨i, rfl, q1⟩ := q1
  exact ⟨i, r1.int_inv, k (some i) H1 B1 μ1 e1 g1 q1⟩⟩, x⟩⟩
def dSlice (da : DE) (ol oh : DO) : DE := fun ρ μ Q E => da ρ μ (fun d μ1 => ol ρ μ1 (fun lo μ2 => oh ρ μ2 (fun hi μ3 => match d with
  | .tup ds => Q (.tup (cutD ds lo hi)) μ3
  | d => ∃ ds, listOf μ3 d = some ds ∧ Q (.lst (cutD ds lo hi)) μ3) E) E) E
theorem re_slice {lo hi : Option Expr} {ol oh : DO} {p2 : Pos} (ha : RE X W a da) (hl : RO X W lo ol) (hh : RO X W hi oh) : RE X W (.Subscript a (.Slice lo hi none p2) pos) (dSlice da ol oh) :=
  ⟨PE.imp (pe_slice (sl_tupA.or sl_list) ha.pe hl.po hh.po) fun σ H Q ⟨B, ρ, μ, QD, QE, g, s, q, k, x⟩ => by
    refine ⟨B, ρ, μ, _, QE, g, s, q, ⟨fun v d H1 B1 μ1 e1 g1 r1 q1 => ?_⟩, x⟩
    refine ⟨B1, ρ, μ1, _, QE, g1, s.mono e1, q1, fun o H2 B2 μ2 e2 g2 q2 => ?_, x.mono e1⟩
    refine ⟨B2, ρ, μ2, _, QE, g2, s.mono (e1.trans e2), q2, fun o' H3 B3 μ3 e3 g3 q3 => ?_, x.mono (e1.trans e2)⟩
    have r3 := (r1.mono e2).mono e3
    have e03 := (e1.trans e2).trans e3
    split at q3
    · have r3' := r3
      obtain ⟨p, xs, rfl, h1, h2⟩ := tupV g3 r3
      refine .inl ⟨p, xs, rfl, h1, fun hw => ?_, fun _ q' hq' => k.ok _ _ _ _ μ3 (e03.trans (Ext.new (g3.freeB hq'))) (g3.still hq') (.tup (Or.inl (Or.inl upd_same)) ((h2.cut _ _).mono (Ext.new (g3.freeB hq')))) q3⟩
      rename_i ds
      have e0 : cutD ds o o' = ds := by
        rw [h2.length] at hw
        unfold cutD
        rw [hw.1, hw.2, List.drop_zero, Nat.sub_zero, List.take_length]
      rw [e0] at q3
      exact k.ok _ _ H3 B3 μ3 e03 g3 r3' q3
    · obtain ⟨ds, hd, q3⟩ := q3
      obtain ⟨p, xs, rfl, h1, h2⟩ := listV g3 r3 hd
      exact .inr ⟨p, xs, rfl, .inl h1, fun q' hq' => k.ok _ _ _ _ μ3 (e03.trans (Ext.new (g3.freeB hq'))) (g3.still hq') (.lst (Or.inl upd_same) ((h2.cut _ _).mono (Ext.new (g3.freeB hq')))) q3⟩⟩

/-! ### arguments, displays -/
def dNil : DA := fun _ μ Q _ => Q [] μ
def dCons (da : DE) (dr : DA) : DA := fun ρ μ Q E => da ρ μ (fun d μ1 => dr ρ μ1 (fun ds μ2 => Q (d :: ds) μ2) E) E
theorem ra_nil : RA X W [] dNil := ⟨PA.imp pa_nil fun σ H Q ⟨B, ρ, μ, QD, QE, g, s, q, k, x⟩ => k [] [] H B μ Ext.rfl' g .nil q⟩
theorem ra_cons (ha : RE X W e da) (hr : RA X W es dr) (hs : starEach (e :: es) X.env = (false, eval e X.env) :: starEach es X.env := by rfl) : RA X W (e :: es) (dCons da dr) :=
  ⟨PA.imp (pa_cons ha.pe hr.pa hs) fun σ H Q ⟨B, ρ, μ, QD, QE, g, s, q, k, x⟩ => by
    refine ⟨B, ρ, μ, _, QE, g, s, q, ⟨fun v d H1 B1 μ1 e1 g1 r1 q1 => ?_⟩, x⟩
    refine ⟨B1, ρ, μ1, _, QE, g1, s.mono e1, q1, fun vs ds H2 B2 μ2 e2 g2 r2 q2 => ?_, x.mono e1⟩
    exact k _ _ H2 B2 μ2 (e1.trans e2) g2 (.cons (r1.mono e2) r2) q2⟩
def dTup (dr : DA) : DE := fun ρ μ Q E => dr ρ μ (fun ds μ1 => ds.length ≤ sizeLine ∧ Q (.tup ds) μ1) E
def dLst (dr : DA) : DE := fun ρ μ Q E => dr ρ μ (fun ds μ1 => ds.length ≤ sizeLine ∧ Q (.lst ds) μ1) E
def dLstM (dr : DA) : DE := fun ρ μ Q E => dr ρ μ (fun ds μ1 => ds.length ≤ sizeLine ∧ ∀ p, μ1 p = none → Q (.ref p) (mset μ1 p (.lst ds))) E
theorem re_tup {x1} (h : RA X W es dr) : RE X W (.Tuple es x1 pos) (dTup dr) :=
  ⟨PE.imp (pe_tup h.pa) fun σ H Q ⟨B, ρ, μ, QD, QE, g, s, q, k, x⟩ => ⟨B, ρ, μ, _, QE, g, s, q, fun vs ds H1 B1 μ1 e1 g1 r1 q1 =>
    ⟨by rw [r1.length]; exact q1.1, fun q' hq' => k.ok _ _ _ _ μ1 (e1.trans (Ext.new (g1.freeB hq'))) (g1.still hq') (.tup (Or.inl (Or.inl upd_same)) (r1.mono (Ext.new (g1.freeB hq')))) q1.2⟩, x⟩⟩
theorem re_lst (h : RA X W es dr) : RE X W (.List es pos) (dLst dr) :=
  ⟨PE.imp (pe_lst h.pa) fun σ H Q ⟨B, ρ, μ, QD, QE, g, s, q, k, x⟩ => ⟨B, ρ, μ, _, QE, g, s, q, fun vs ds H1 B1 μ1 e1 g1 r1 q1 =>
    ⟨by rw [r1.length]; exact q1.1, fun q' hq' => k.ok _ _ _ _ μ1 (e1.trans (Ext.new (g1.freeB hq'))) (g1.still hq') (.lst (Or.inl upd_same) (r1.mono (Ext.new (g1.freeB hq')))) q1.2⟩, x⟩⟩
theorem re_lstM (h : RA X W es dr) : RE X W (.List es pos) (dLstM dr) :=
  ⟨PE.imp (pe_lst h.pa) fun σ H Q ⟨B, ρ, μ, QD, QE, g, s, q, k, x⟩ => ⟨B, ρ, μ, _, QE, g, s, q, fun vs ds H1 B1 μ1 e1 g1 r1 q1 =>
    ⟨by rw [r1.length]; exact q1.1, fun q' hq' => k.ok _ _ _ _ _ e1 (g1.fresh (m := .lst ds) hq' ⟨_, upd_same, r1⟩) (.ref _) (q1.2 q' (g1.free hq'))⟩, x⟩⟩

/-! ### calls of what is built in -/
abbrev CD := List D → Mu → DQ → Prop
def CaD (K : PySem.W.Frag) (r : List V → Hp → VK → Prop) (rd : CD) : Prop := ∀ B H μ xs ds QD Q, Good K B H μ → RpL K B xs ds → rd ds μ QD → Kt K B Q QD → r xs H Q
def dCB (rd : CD) (dr : DA) : DE := fun ρ μ Q E => dr ρ μ (fun ds μ1 => rd ds μ1 Q) E
theorem up_cb {K : PySem.W.Frag} {r : List V → Hp → VK → Prop} {rd : CD} (h : CaD K r rd) {σ : L2.St} {H : Hp} {Q : VK} (q : upE K W (dCB rd dr) σ H Q) : tCB r (upA K W dr) σ H Q := by
  obtain ⟨B, ρ, μ, QD, QE, g, s, q, k, x⟩ := q
  exact ⟨B, ρ, μ, _, QE, g, s, q, fun vs ds H1 B1 μ1 e1 g1 r1 q1 => h B1 H1 μ1 vs ds QD Q g1 r1 q1 (k.mono e1), x⟩
theorem re_cb {x : Str} {id : String} {r : List V → Hp → VK → Prop} {rd : CD} {p : Pos} (hc : CallR X (.builtin id) r) (h : CaD X.K r rd) (hg : Gl X x) (hm : X.mg x = none) (hv : bootBuiltins x = some (.builtin id)) (ha : RA X W (e :: es) dr) (hn : x ≠ "__name__" := by decide) (hdb : (x == ("__debug__" : Str)) = false := by decide)
    (he : starEach (e :: es) X.env = (false, eval e X.env) :: starEach es X.env := by rfl) (hpl : (backTo pos (starEach es X.env)).any (·.1) = false := by rfl) :
    RE X W (.Call (.Name x p) (e :: es) [] pos) (dCB rd dr) := ⟨PE.imp (pe_callB hc hg hm hv ha.pa hn hdb he hpl) fun _ _ _ q => up_cb h q⟩
theorem re_ct {x : Str} {T : String} {r : List V → Hp → VK → Prop} {rd : CD} {p : Pos} (hc : CallR X (.type T) r) (h : CaD X.K r rd) (hg : Gl X x) (hm : X.mg x = none) (hv : bootBuiltins x = some (.type T)) (ha : RA X W (e :: es) dr) (hn : x ≠ "__name__" := by decide) (hdb : (x == ("__debug__" : Str)) = false := by decide)
    (he : starEach (e :: es) X.env = (false, eval e X.env) :: starEach es X.env := by rfl) (hpl : (backTo pos (starEach es X.env)).any (·.1) = false := by rfl) :
    RE X W (.Call (.Name x p) (e :: es) [] pos) (dCB rd dr) := ⟨PE.imp (pe_callTy hc hg hm hv ha.pa hn hdb he hpl) fun _ _ _ q => up_cb h q⟩
/-- len -/
def cdLen : CD := fun ds μ Q => match ds with
  | [.str z] => z.length ≤ sizeLine ∧ Q (.int z.length) μ
  | [d] => ∃ xs, seqOf μ d = some xs ∧ Q (.int xs.length) μ
  | _ => False
theorem RpL.one_inv {K : PySem.W.Frag} {B : Hp} {xs : List V} {d : D} (r : RpL K B xs [d]) : ∃ v, xs = [v] ∧ Rp K B v d := by
  cases r with
  | cons h r => cases r; exact ⟨_, rfl, h⟩
theorem RpL.two_inv {K : PySem.W.Frag} {B : Hp} {xs : List V} {d e : D} (r : RpL K B xs [d, e]) : ∃ v w, xs = [v, w] ∧ Rp K B v d ∧ Rp K B w e := by
  cases r with
  | cons h r =>
    obtain ⟨w, rfl, h2⟩ := r.one_inv
    exact ⟨_, _, rfl, h, h2⟩
theorem ca_len {K : PySem.W.Frag} : CaD K (fun xs H Q => ∃ x n, xs = [x] ∧ LenV K x H n ∧ Q (.int n) H) cdLen := by
  intro B H μ xs ds QD Q g r q k
  unfold cdLen at q
  split at q
  · obtain ⟨v, rfl, r1⟩ := r.one_inv
    obtain rfl := r1.str_inv
    exact ⟨_, _, rfl, ⟨q.1, rfl⟩, k.ok _ _ H B μ Ext.rfl' g (.int _) q.2⟩
  · obtain ⟨v, rfl, r1⟩ := r.one_inv
    obtain ⟨ys, h1, q⟩ := q
    obtain ⟨a, zs, rfl, hs, rl⟩ := seqV g r1 h1
    refine ⟨_, zs.length, rfl, ?_, ?_⟩
    · rcases hs with hs | hs
      · exact .inl ⟨zs, hs, rfl⟩
      · exact .inr ⟨zs, hs, rfl⟩
    · rw [rl.length]
      exact k.ok _ _ H B μ Ext.rfl' g (.int _) q
  · exact q.elim
/-- abs, int, bool -/
def cdAbs : CD := fun ds μ Q => match ds with
  | [.int i] => Q (.int (if i < 0 then -i else i)) μ
  | _ => False
theorem ca_abs {K : PySem.W.Frag} : CaD K (fun xs H Q => ∃ i, xs = [.int i] ∧ Q (.int (if i < 0 then -i else i)) H) cdAbs := by
  intro B H μ xs ds QD Q g r q k
  unfold cdAbs at q
  split at q
  · obtain ⟨v, rfl, r1⟩ := r.one_inv
    obtain rfl := r1.int_inv
    exact ⟨_, rfl, k.ok _ _ H B μ Ext.rfl' g (.int _) q⟩
  · exact q.elim
def cdInt : CD := fun ds μ Q => match ds with
  | [.int i] => Q (.int i) μ
  | [.bl k] => Q (.int (if k then 1 else 0)) μ
  | _ => False
theorem ca_int {K : PySem.W.Frag} : CaD K (fun xs H Q => (∃ i, xs = [.int i] ∧ Q (.int i) H) ∨ ∃ k, xs = [.bl k] ∧ Q (.int (if k then 1 else 0)) H) cdInt := by
  intro B H μ xs ds QD Q g r q k
  unfold cdInt at q
  split at q
  · obtain ⟨v, rfl, r1⟩ := r.one_inv
    obtain rfl := r1.int_inv
    exact .inl ⟨_, rfl, k.ok _ _ H B μ Ext.rfl' g (.int _) q⟩
  · obtain ⟨v, rfl, r1⟩ := r.one_inv
    obtain rfl := r1.bl_inv
    exact .inr ⟨_, rfl, k.ok _ _ H B μ Ext.rfl' g (.int _) q⟩
  · exact q.elim
/-- min, max of two numbers -/
def cdMin2 : CD := fun ds μ Q => match ds with
  | [.int i, .int j] => Q (.int (if j < i then j else i)) μ
  | _ => False
theorem ca_min2 {K : PySem.W.Frag} : CaD K (fun xs H Q => ∃ i j, xs = [.int i, .int j] ∧ Q (.int (if j < i then j else i)) H) cdMin2 := by
  intro B H μ xs ds QD Q g r q k
  unfold cdMin2 at q
  split at q
  · obtain ⟨v, w, rfl, r1, r2⟩ := r.two_inv
    obtain rfl := r1.int_inv
    obtain rfl := r2.int_inv
    exact ⟨_, _, rfl, k.ok _ _ H B μ Ext.rfl' g (.int _) q⟩
  · exact q.elim
def cdMax2 : CD := fun ds μ Q => match ds with
  | [.int i, .int j] => Q (.int (if j > i then j else i)) μ
  | _ => False
theorem ca_max2 {K : PySem.W.Frag} : CaD K (fun xs H Q => ∃ i j, xs = [.int i, .int j] ∧ Q (.int (if j > i then j else i)) H) cdMax2 := by
  intro B H μ xs ds QD Q g r q k
  unfold cdMax2 at q
  split at q
  · obtain ⟨v, w, rfl, r1, r2⟩ := r.two_inv
    obtain rfl := r1.int_inv
    obtain rfl := r2.int_inv
    exact ⟨_, _, rfl, k.ok _ _ H B μ Ext.rfl' g (.int _) q⟩
  · exact q.elim
/-- tuple(x), list(x) of a list or a tuple -/
def cdTup : CD := fun ds μ Q => match ds with
  | [d] => ∃ xs, seqOf μ d = some xs ∧ Q (.tup xs) μ
  | _ => False
theorem ca_tup {K : PySem.W.Frag} : CaD K (fun xs H Q => ∃ p ys, xs = [.ref p] ∧ ((SqL K H p ys ∧ ∀ l, H l = none → Q (.ref l) (upd H l (.tup ys))) ∨ (SqT K H p ys ∧ Q (.ref p) H))) cdTup := by
  intro B H μ xs ds QD Q g r q k
  unfold cdTup at q
  split at q
  · obtain ⟨v, rfl, r1⟩ := r.one_inv
    obtain ⟨ys, h1, q⟩ := q
    rcases seqOf_inv h1 with rfl | rfl | h1
    · have r' := r1
      obtain ⟨a, zs, rfl, hs, rl⟩ := tupV g r1
      exact ⟨_, _, rfl, .inr ⟨hs, k.ok _ _ H B μ Ext.rfl' g r' q⟩⟩
    · obtain ⟨a, zs, rfl, hs, rl⟩ := r1.arg_inv
      exact ⟨_, _, rfl, .inl ⟨ext_l g.ex hs, fun q' hq' => k.ok _ _ _ _ μ (Ext.new (g.freeB hq')) (g.still hq') (.tup (Or.inl (Or.inl upd_same)) (rl.mono (Ext.new (g.freeB hq')))) q⟩⟩
    · obtain ⟨a, zs, rfl, hs, rl⟩ := listV g r1 h1
      exact ⟨_, _, rfl, .inl ⟨.inl hs, fun q' hq' => k.ok _ _ _ _ μ (Ext.new (g.freeB hq')) (g.still hq') (.tup (Or.inl (Or.inl upd_same)) (rl.mono (Ext.new (g.freeB hq')))) q⟩⟩
  · exact q.elim
def cdList : CD := fun ds μ Q => match ds with
  | [d] => ∃ xs, seqOf μ d = some xs ∧ Q (.lst xs) μ
  | _ => False
def cdListM : CD := fun ds μ Q => match ds with
  | [d] => ∃ xs, seqOf μ d = some xs ∧ ∀ p, μ p = none → Q (.ref p) (mset μ p (.lst xs))
  | _ => False
abbrev rListOf (K : PySem.W.Frag) : List V → Hp → VK → Prop := fun xs H Q => ∃ p ys, xs = [.ref p] ∧ (SqL K H p ys ∨ SqT K H p ys) ∧ ∀ l, H l = none → Q (.ref l) (upd H l (.lst ys))
theorem sqOr {K : PySem.W.Frag} {H : Hp} {a : Addr} {zs : List V} (h : Rd H a (.lst zs) ∨ SqT K H a zs) : SqL K H a zs ∨ SqT K H a zs := h.elim (fun z => .inl (.inl z)) .inr
theorem seqV' {K : PySem.W.Frag} {B H : Hp} {μ : Mu} {v : V} {d : D} {ds : List D} (g : Good K B H μ) (r : Rp K B v d) (h : seqOf μ d = some ds) : ∃ a xs, v = .ref a ∧ (SqL K H a xs ∨ SqT K H a xs) ∧ RpL K B xs ds := seqV g r h
theorem ca_list {K : PySem.W.Frag} : CaD K (rListOf K) cdList := by
  intro B H μ xs ds QD Q g r q k
  unfold cdList at q
  split at q
  · obtain ⟨v, rfl, r1⟩ := r.one_inv
    obtain ⟨ys, h1, q⟩ := q
    obtain ⟨a, zs, rfl, hs, rl⟩ := seqV' g r1 h1
    exact ⟨_, _, rfl, hs, fun q' hq' => k.ok _ _ _ _ μ (Ext.new (g.freeB hq')) (g.still hq') (.lst (Or.inl upd_same) (rl.mono (Ext.new (g.freeB hq')))) q⟩
  · exact q.elim
theorem ca_listM {K : PySem.W.Frag} : CaD K (rListOf K) cdListM := by
  intro B H μ xs ds QD Q g r q k
  unfold cdListM at q
  split at q
  · obtain ⟨v, rfl, r1⟩ := r.one_inv
    obtain ⟨ys, h1, q⟩ := q
    obtain ⟨a, zs, rfl, hs, rl⟩ := seqV' g r1 h1
    exact ⟨_, _, rfl, hs, fun q' hq' => k.ok _ _ _ _ _ Ext.rfl' (g.fresh (m := .lst ys) hq' ⟨_, upd_same, rl⟩) (.ref _) (q q' (g.free hq'))⟩
  · exact q.elim
/-- all, any of a list of bools -/
def blsOf : List D → Option (List Bool)
  | [] => some []
  | .bl b :: ds => (blsOf ds).map (b :: ·)
  | _ => none
theorem bls_map : ∀ {ds : List D} {bs : List Bool}, blsOf ds = some bs → ds = bs.map .bl
  | [], bs, h => by cases h; rfl
  | .bl b :: ds, bs, h => by
    obtain ⟨cs, h1, rfl⟩ := Option.map_eq_some_iff.mp h
    rw [bls_map h1]
    rfl
  | .non :: _, _, h => by cases h
  | .int _ :: _, _, h => by cases h
  | .str _ :: _, _, h => by cases h
  | .lst _ :: _, _, h => by cases h
  | .tup _ :: _, _, h => by cases h
  | .arg _ :: _, _, h => by cases h
  | .ins _ _ :: _, _, h => by cases h
  | .ref _ :: _, _, h => by cases h
  | .ty _ :: _, _, h => by cases h
  | .cls _ :: _, _, h => by cases h
  | .fn _ _ _ :: _, _, h => by cases h
  | .exc _ _ :: _, _, h => by cases h
def cdAll : CD := fun ds μ Q => match ds with
  | [d] => ∃ xs bs, listOf μ d = some xs ∧ xs = List.map D.bl bs ∧ Q (.bl (bs.all id)) μ
  | _ => False
def cdAny : CD := fun ds μ Q => match ds with
  | [d] => ∃ xs bs, listOf μ d = some xs ∧ xs = List.map D.bl bs ∧ Q (.bl (bs.any id)) μ
  | _ => False
theorem ca_all {K : PySem.W.Frag} : CaD K (rAll K) cdAll := by
  intro B H μ xs ds QD Q g r q k
  unfold cdAll at q
  split at q
  · obtain ⟨v, rfl, r1⟩ := r.one_inv
    obtain ⟨ys, bs, h1, rfl, q⟩ := q
    obtain ⟨a, zs, rfl, hs, rl⟩ := listV g r1 h1
    obtain rfl := rl.bls
    exact ⟨_, _, rfl, .inl hs, k.ok _ _ H B μ Ext.rfl' g (.bl _) q⟩
  · exact q.elim
theorem ca_any {K : PySem.W.Frag} : CaD K (rAny K) cdAny := by
  intro B H μ xs ds QD Q g r q k
  unfold cdAny at q
  split at q
  · obtain ⟨v, rfl, r1⟩ := r.one_inv
    obtain ⟨ys, bs, h1, rfl, q⟩ := q
    obtain ⟨a, zs, rfl, hs, rl⟩ := listV g r1 h1
    obtain rfl := rl.bls
    exact ⟨_, _, rfl, .inl hs, k.ok _ _ H B μ Ext.rfl' g (.bl _) q⟩
  · exact q.elim
end
end DL

/-! The data layer, 4: calls of defs, methods, dicts, statements, loops, comprehensions. -/
namespace DL
open PySem PySem.Spec PyProof.Rows L2

/-! ### promises over data -/
abbrev SpD := List D → Mu → DQ → XQ → Prop
structure KtE (K : PySem.W.Frag) (B : Hp) (E : XK) (QE : XQ) : Prop where
  ex : ∀ cls dx x H2 B2 μ2, Ext B B2 → Good K B2 H2 μ2 → ExR K B2 cls dx x → QE x μ2 → E cls dx H2
theorem KtE.mono {K : PySem.W.Frag} {B B' : Hp} {E : XK} {QE : XQ} (k : KtE K B E QE) (e : Ext B B') : KtE K B' E QE := ⟨fun cls dx x H2 B2 μ2 a => k.ex cls dx x H2 B2 μ2 (e.trans a)⟩
def upSp (K : PySem.W.Frag) (sd : SpD) : Sp := fun vs H Q E => ∃ B ds μ QD QE, Good K B H μ ∧ RpL K B vs ds ∧ sd ds μ QD QE ∧ Kt K B Q QD ∧ KtE K B E QE
def startD (N : List Str) (ds : List D) : Rho := ds.map some ++ List.replicate (N.length - ds.length) none
theorem start_rel {K : PySem.W.Frag} {B : Hp} {N : List Str} {vs : List V} {ds : List D} (r : RpL K B vs ds) : SlR K B (L2.start N vs) (startD N ds) := by
  refine ⟨by unfold L2.start startD; simp [r.length], fun i d h => ?_⟩
  unfold startD at h
  unfold L2.start
  by_cases c : i < ds.length
  · rw [List.getElem?_append_left (by simpa using c), List.getElem?_map] at h
    rw [List.getElem?_append_left (by simpa [r.length] using c), List.getElem?_map]
    cases e : ds[i]? with
    | none => rw [e] at h; cases h
    | some y =>
      rw [e] at h
      simp only [Option.map_some, Option.some.injEq] at h
      subst h
      obtain ⟨u, h1, h2⟩ := r.get e
      exact ⟨u, by rw [h1]; rfl, h2⟩
  · rw [List.getElem?_append_right (by simpa using c)] at h
    rw [List.getElem?_replicate] at h
    split at h <;> cases h
/-- what a def hands back: what it knows less, a list of its own that will change no more -/
def fin (Q : DQ) : DQ := fun d μ => (∃ μ', (∀ a m, μ' a = some m → μ a = some m) ∧ Q d μ') ∨ ∃ a ds μ', d = .ref a ∧ μ a = some (.lst ds) ∧ (∀ b m, μ' b = some m → mdel μ a b = some m) ∧ Q (.lst ds) μ'
def finX (Q : XQ) : XQ := fun x μ => ∃ μ', (∀ a m, μ' a = some m → μ a = some m) ∧ Q x μ'
theorem fin_self {Q : DQ} {d : D} {μ : Mu} (h : Q d μ) : fin Q d μ := .inl ⟨μ, fun _ _ h => h, h⟩
theorem fin_less {Q : DQ} {d : D} {μ μ' : Mu} (l : ∀ a m, μ' a = some m → μ a = some m) (h : Q d μ') : fin Q d μ := .inl ⟨μ', l, h⟩
theorem Kt.fin {K : PySem.W.Frag} {B : Hp} {Q : VK} {QD : DQ} (k : Kt K B Q QD) : Kt K B Q (fin QD) := ⟨fun v d H2 B2 μ2 e g r q => by
  rcases q with ⟨μ', l, q⟩ | ⟨a, ds, μ', rfl, hm, l, q⟩
  · exact k.ok v d H2 B2 μ' e (g.less l) r q
  · obtain ⟨B3, e3, g3, r3⟩ := g.freeze hm
    rw [r.ref_inv]
    exact k.ok _ _ H2 B3 μ' (e.trans e3) (g3.less l) r3 q⟩
section
variable {P : Program} {w : World} {K : PySem.W.Frag} {mg : Str → Option Value} {base : Heap}
/-- a def keeps its promise over data, from its body's derivation and the reading over data -/
theorem fn_ok {x qual : Str} {st : Stmt} {f : Addr} {fd : FuncData} {N ps : List Str} {k : Nat} {sd : SpD} {db : DS} (F : Fun K x qual st f fd) (S : FnScope N ps (defScope st)) (len : ∀ ds μ Q E, sd ds μ Q E → ds.length = ps.length)
    (hbody : ∀ (cdv : Value) (A : Around) (outer : List Env) (s : Shared) (H : Hp) (E : XK), Room k (A.deeper (envOfC qual (defScope st) s.heap.objs.size f cdv)) →
      RSs (cxOf (L2.CX P w) P w K mg base N qual (defScope st) f cdv A outer s H E) (fun cls d _ H => E cls d H) (defBody st) db)
    (pure : ∀ ds μ Q QE, sd ds μ Q QE → db { nx := fun _ μ' => fin Q .non μ', rt := fin Q, xe := finX QE } (startD N ds) μ) : FnOk P w K mg base (L2.CX P w) (k + 1) f fd ps (upSp K sd) := by
  refine F.okX S (fun vs H Q E ⟨B, ds, μ, QD, QE, g, r, q, _⟩ => r.length.trans (len _ _ _ _ q)) (fun cdv A outer s H vs Q E hr h => ?_)
  obtain ⟨B, ds, μ, QD, QE, g, r, q, k1, k2⟩ := h
  refine ⟨_, (hbody cdv A outer s H E hr).pss, B, _, μ, _, g, start_rel r, pure ds μ QD QE q, ⟨fun σ2 ρ2 H2 B2 μ2 e g2 s2 q2 => ?_, fun σ2 ρ2 H2 B2 μ2 e g2 s2 q2 => q2.elim, fun σ2 ρ2 H2 B2 μ2 e g2 s2 q2 => q2.elim, k1.fin, fun σ => ⟨fun cls dx x H2 B2 μ2 e g2 r2 q2 => ?_⟩⟩⟩
  · exact k1.fin.ok .non .non H2 B2 μ2 e g2 .non q2
  · obtain ⟨μ', l, q2⟩ := q2
    exact k2.ex cls dx x H2 B2 μ' e (g2.less l) r2 q2
end
section
variable {X : Cx} {W : WX} {e a b c : Expr} {es : List Expr} {da db dc : DE} {dt du : DT} {dr dk : DA} {pos : Pos}
/-! ### f(..) -/
def dCall (sd : SpD) (dr : DA) : DE := fun ρ μ Q E => dr ρ μ (fun ds μ1 => sd ds μ1 Q E) E
theorem re_call {k : Nat} {f : Addr} {fd : FuncData} {ps : List Str} {sd : SpD} {x : Str} {p : Pos} (F : FnOk X.prog X.w X.K X.mg X.base (L2.CX X.prog X.w) k f fd ps (upSp X.K sd)) (hr : Room k X.A) (hg : Gl X x) (hm : X.mg x = some (.ref f)) (hk : PySem.W.keepIn X.K (.ref f) = true) (hb : L2.Binds X.K fd ps []) (tk : Takes X W)
    (ha : RA X W (e :: es) dr) (hdb : (x == ("__debug__" : Str)) = false := by decide) (he : starEach (e :: es) X.env = (false, eval e X.env) :: starEach es X.env := by rfl) (hpl : (backTo pos (starEach es X.env)).any (·.1) = false := by rfl) :
    RE X W (.Call (.Name x p) (e :: es) [] pos) (dCall sd dr) :=
  ⟨PE.imp (pe_callS F hr hg hm hk hb (fun σ => passAt tk σ) ha.pa hdb he hpl) fun σ H Q ⟨B, ρ, μ, QD, QE, g, s, q, kk, x⟩ => ⟨B, ρ, μ, _, QE, g, s, q, fun vs ds H1 B1 μ1 e1 g1 r1 q1 =>
    ⟨B1, ds, μ1, QD, QE, g1, r1, q1, kk.mono e1, ⟨fun cls dx y H2 B2 μ2 e2 => x.ex cls dx y H2 B2 μ2 (e1.trans e2)⟩⟩, x⟩⟩
theorem re_call0 {k : Nat} {f : Addr} {fd : FuncData} {ps : List Str} {sd : SpD} {x : Str} {p : Pos} (F : FnOk X.prog X.w X.K X.mg X.base (L2.CX X.prog X.w) k f fd ps (upSp X.K sd)) (hr : Room k X.A) (hg : Gl X x) (hm : X.mg x = some (.ref f)) (hk : PySem.W.keepIn X.K (.ref f) = true) (hb : L2.Binds X.K fd ps []) (tk : Takes X W)
    (hdb : (x == ("__debug__" : Str)) = false := by decide) : RE X W (.Call (.Name x p) [] [] pos) (dCall sd dNil) := by
  refine ⟨⟨fun pins s σ H Q I h => ?_⟩⟩
  obtain ⟨B, ρ, μ, QD, QE, g, sl, q, kk, xx⟩ := h
  refine wpAny_Call_Name_kw (ld_glob I hg hm ?_ hdb)
  refine PySem.W.callWith_K0 I.kIn hk (run_fnS (us := []) (E := WE W) F hr hb (passAt tk σ) I .nil ⟨B, [], μ, QD, QE, g, .nil, q, kk, ⟨fun cls dx y H2 B2 μ2 e2 => xx.ex cls dx y H2 B2 μ2 e2⟩⟩)
/-- all arguments by name; π: the parameters' places among the keywords -/
def dCallK (sd : SpD) (π : List Nat) (dk : DA) : DE := fun ρ μ Q E => dk ρ μ (fun ds μ1 => ds.length = π.length ∧ ∃ es, π.mapM (fun i => ds[i]?) = some es ∧ sd es μ1 Q E) E
structure RK (X : Cx) (W : WX) (kws : List Keyword) (de : DA) : Prop where
  pk : PK X kws (upA X.K W de)
theorem PK.imp {kws : List Keyword} {t t' : TA} (h : PK X kws t) (i : ∀ σ H Q, t' σ H Q → t σ H Q) : PK X kws t' := ⟨fun p pins s σ H Q I q => h.run p pins s σ H Q I (i σ H Q q)⟩
theorem rk_nil : RK X W [] dNil := ⟨PK.imp pk_nil fun σ H Q ⟨B, ρ, μ, QD, QE, g, s, q, k, x⟩ => k [] [] H B μ Ext.rfl' g .nil q⟩
theorem rk_cons {kws : List Keyword} {nm : Option Str} {kpos : Pos} (ha : RE X W e da) (hr : RK X W kws dr) : RK X W (⟨nm, e, kpos⟩ :: kws) (dCons da dr) :=
  ⟨PK.imp (pk_cons ha.pe hr.pk) fun σ H Q ⟨B, ρ, μ, QD, QE, g, s, q, k, x⟩ => by
    refine ⟨B, ρ, μ, _, QE, g, s, q, ⟨fun v d H1 B1 μ1 e1 g1 r1 q1 => ?_⟩, x⟩
    refine ⟨B1, ρ, μ1, _, QE, g1, s.mono e1, q1, fun vs ds H2 B2 μ2 e2 g2 r2 q2 => ?_, x.mono e1⟩
    exact k _ _ H2 B2 μ2 (e1.trans e2) g2 (.cons (r1.mono e2) r2) q2⟩
theorem RpL.pick {K : PySem.W.Frag} {B : Hp} {xs : List V} {ds : List D} (r : RpL K B xs ds) : ∀ {π : List Nat} {es : List D}, π.mapM (fun i => ds[i]?) = some es → ∃ ys, π.mapM (fun i => xs[i]?) = some ys ∧ RpL K B ys es
  | [], es, h => by
    simp only [List.mapM_nil, Option.pure_def, Option.some.injEq] at h
    subst h
    exact ⟨[], rfl, .nil⟩
  | i :: π, es, h => by
    rw [List.mapM_cons] at h
    cases e1 : ds[i]? with
    | none => rw [e1] at h; cases h
    | some d =>
      rw [e1] at h
      cases e2 : π.mapM (fun i => ds[i]?) with
      | none => rw [e2] at h; cases h
      | some fs =>
        rw [e2] at h
        cases h
        obtain ⟨v, h1, h2⟩ := r.get e1
        obtain ⟨ys, h3, h4⟩ := RpL.pick r e2
        exact ⟨v :: ys, by rw [List.mapM_cons, h1, h3]; rfl, .cons h2 h4⟩
theorem Vals.pick {xs : List V} {us : List Value} (r : Vals xs us) : ∀ {π : List Nat} {ys : List V}, π.mapM (fun i => xs[i]?) = some ys → ∃ ws, π.mapM (fun i => us[i]?) = some ws ∧ Vals ys ws
  | [], es, h => by
    simp only [List.mapM_nil, Option.pure_def, Option.some.injEq] at h
    subst h
    exact ⟨[], rfl, .nil⟩
  | i :: π, es, h => by
    rw [List.mapM_cons] at h
    cases e1 : xs[i]? with
    | none => rw [e1] at h; cases h
    | some d =>
      rw [e1] at h
      cases e2 : π.mapM (fun i => xs[i]?) with
      | none => rw [e2] at h; cases h
      | some fs =>
        rw [e2] at h
        cases h
        obtain ⟨v, h1, h2⟩ := L2.Vals.get r e1
        obtain ⟨ys, h3, h4⟩ := Vals.pick r e2
        exact ⟨v :: ys, by rw [List.mapM_cons, h1, h3]; rfl, .cons h2 h4⟩
/-- how a call by names alone binds: the keywords' values ws, put at the parameters' places by π -/
def KwBinds (K : PySem.W.Frag) (fd : FuncData) (ps ks : List Str) (π : List Nat) : Prop := ∀ (s : Shared) (ws us : List Value), K.In s.heap → ws.length = ks.length → π.mapM (fun i => ws[i]?) = some us → BindsTo s fd ⟨[], ks.zip ws⟩ (ps.zip us)
theorem re_callK {k : Nat} {f : Addr} {fd : FuncData} {ps ks : List Str} {sd : SpD} {x : Str} {p : Pos} {kws : List Keyword} {π : List Nat} (F : FnOk X.prog X.w X.K X.mg X.base (L2.CX X.prog X.w) k f fd ps (upSp X.K sd)) (hr : Room k X.A) (hg : Gl X x) (hm : X.mg x = some (.ref f)) (hk : PySem.W.keepIn X.K (.ref f) = true)
    (hb : KwBinds X.K fd ps ks π) (tk : Takes X W) (hlen : π.length = ks.length) (hkw : RK X W kws dk) (hall : (backToKw pos (keywordEach kws X.env)).all (·.1.isSome) = true := by rfl) (hks : (backToKw pos (keywordEach kws X.env)).filterMap (·.1) = ks := by rfl)
    (hdb : (x == ("__debug__" : Str)) = false := by decide)
    (hpl : ((backTo pos (starEach [] X.env)).any (·.1) || (backToKw pos (keywordEach kws X.env)).any (·.1.isNone)) = false := by rfl) :
    RE X W (.Call (.Name x p) [] kws pos) (dCallK sd π dk) := by
  refine ⟨⟨fun pins s σ H Q I h => ?_⟩⟩
  obtain ⟨B, ρ, μ, QD, QE, g, sl, q, kk, xx⟩ := h
  refine wpAny_Call_Name_kw (ld_glob I hg hm ?_ hdb)
  refine PySem.W.callWith_KW0 (h₀ := X.base) I.ok.mod.kin hk hall ?_ hpl
  refine thn (hkw.pk.run pos pins s σ H (fun zs H2 => zs.length = ks.length ∧ ∃ ys, π.mapM (fun i => zs[i]?) = some ys ∧ upSp X.K sd ys H2 Q (WE W σ)) I ⟨B, ρ, μ, _, QE, g, sl, q, fun vs ds H1 B1 μ1 e1 g1 r1 q1 => ?_, xx⟩) fun ws s2 ⟨zs, H2, I2, rz, hl, ys, hy, q2⟩ => ?_
  · obtain ⟨hl, es, h1, q1⟩ := q1
    obtain ⟨ys, h3, h4⟩ := r1.pick h1
    exact ⟨(r1.length.trans hl).trans hlen, ys, h3, B1, es, μ1, QD, QE, g1, h4, q1, kk.mono e1, ⟨fun cls dx y H2 B2 μ2 e2 => xx.ex cls dx y H2 B2 μ2 (e1.trans e2)⟩⟩
  · first | refine ⟨I2.kIn, ?_⟩ | skip
    rw [hks]
    obtain ⟨us, h5, h6⟩ := Vals.pick rz hy
    refine wpAny_call (codeAny_mono (F.run X.A X.stack s2 H2 ⟨[], ks.zip ws⟩ us ys Q (WE W σ) hr I2.env0 (hb s2 ws us I2.kIn (rz.length.symm.trans hl) h5) h6 q2) fun r s' hq => ?_)
    cases r with
    | error e => exact passAt tk σ pins H2 s2 e s' I2 hq
    | ok fl =>
      cases fl with
      | ret u => exact I2.after hq
      | next => exact False.elim hq
      | brk => exact False.elim hq
      | cont => exact False.elim hq

/-! ### methods of lists -/
theorem tyL {K : PySem.W.Frag} {B H : Hp} {μ : Mu} {a : Addr} {ds : List D} (g : Good K B H μ) (h : μ a = some (.lst ds)) : tyV K "list" (.ref a) H := by
  obtain ⟨_, xs, h1, h2⟩ := g.mo a _ h
  exact .inl ⟨rfl, _, .inl (.inl h1)⟩
/-- xs.append(e) -/
def dAppend (da db : DE) : DE := fun ρ μ Q E => da ρ μ (fun d μ1 => ∃ a ds0, d = .ref a ∧ μ1 a = some (.lst ds0) ∧ db ρ μ1 (fun e μ2 => ∃ ds, μ2 a = some (.lst ds) ∧ ds.length < sizeLine ∧ Q .non (mset μ2 a (.lst (ds ++ [e])))) E) E
theorem re_append {apos : Pos} (ha : RE X W a da) (hb : RE X W b db)
    (hbase : attributeBase a "append" X.env (eval a X.env) = eval a X.env := by rfl)
    (hfew : ((backTo pos (starEach [b] X.env)).all (fun x => !x.1) && (backToKw pos (keywordEach [] X.env)).all (fun x => x.1.isSome)
      && decide (([b] : List Expr).length + ([] : List Keyword).length + (if ([] : List Keyword).isEmpty then 0 else 1) < 30)) = true := by rfl)
    (hline : (apos.endLine == pos.line) = true := by rfl) (hs : starEach [b] X.env = (false, eval b X.env) :: starEach [] X.env := by rfl) (hplain : (backTo pos (starEach [] X.env)).any (·.1) = false := by rfl) :
    RE X W (.Call (.Attribute a "append" apos) [b] [] pos) (dAppend da db) :=
  ⟨PE.imp (pe_bm PySem.F.plainAttrs_list PySem.F.slot_list_append PySem.F.type_list_append mt_append ha.pe (ra_cons (dr := dNil) hb ra_nil hs).pa hbase hfew hline hs hplain) fun σ H Q ⟨B, ρ, μ, QD, QE, g, s, q, k, x⟩ => by
    refine ⟨B, ρ, μ, _, QE, g, s, q, ⟨fun v d H1 B1 μ1 e1 g1 r1 q1 => ?_⟩, x⟩
    obtain ⟨p, ds0, rfl, hm, q1⟩ := q1
    obtain rfl := r1.ref_inv
    refine ⟨tyL g1 hm, B1, ρ, μ1, (fun es μ2 => match es with | [e] => ∃ ds, μ2 p = some (.lst ds) ∧ ds.length < sizeLine ∧ QD .non (mset μ2 p (.lst (ds ++ [e]))) | _ => False), QE, g1, s.mono e1, q1, fun vs es H2 B2 μ2 e2 g2 r2 q2 => ?_, x.mono e1⟩
    dsimp only at q2
    split at q2
    · obtain ⟨u, rfl, rv⟩ := r2.one_inv
      obtain ⟨ds, hm2, hz, q2⟩ := q2
      obtain ⟨_, xs, h1, h2⟩ := g2.mo p _ hm2
      exact ⟨p, xs, _, rfl, rfl, h1, by rw [h2.length]; exact hz, k.ok _ _ _ _ _ (e1.trans e2) (g2.put (m := .lst _) hm2 ⟨_, upd_same, h2.append (.cons rv .nil)⟩) .non q2⟩
    · exact q2.elim⟩
/-- xs.pop() -/
def dPop (da : DE) : DE := fun ρ μ Q E => da ρ μ (fun d μ1 => ∃ a ds y, d = .ref a ∧ μ1 a = some (.lst ds) ∧ ds[ds.length - 1]? = some y ∧ Q y (mset μ1 a (.lst ds.dropLast))) E
theorem re_pop {apos : Pos} (ha : RE X W a da) (hbase : attributeBase a "pop" X.env (eval a X.env) = eval a X.env := by rfl) (hline : (apos.endLine == pos.line) = true := by rfl) :
    RE X W (.Call (.Attribute a "pop" apos) [] [] pos) (dPop da) :=
  ⟨PE.imp (pe_bm0 PySem.F.plainAttrs_list PySem.F.slot_list_pop PySem.F.type_list_pop mt_pop ha.pe hbase hline) fun σ H Q ⟨B, ρ, μ, QD, QE, g, s, q, k, x⟩ => by
    refine ⟨B, ρ, μ, _, QE, g, s, q, ⟨fun v d H1 B1 μ1 e1 g1 r1 q1 => ?_⟩, x⟩
    obtain ⟨p, ds, y, rfl, hm, hy, q1⟩ := q1
    obtain rfl := r1.ref_inv
    obtain ⟨_, xs, h1, h2⟩ := g1.mo p _ hm
    obtain ⟨u, h3, h4⟩ := h2.get hy
    exact ⟨tyL g1 hm, p, xs, u, rfl, rfl, h1, by rw [h2.length]; exact h3, k.ok _ _ _ _ _ e1 (g1.put (m := .lst _) hm ⟨_, upd_same, h2.dropLast⟩) h4 q1⟩⟩
/-- xs.pop(i) -/
def dPopAt (da db : DE) : DE := fun ρ μ Q E => da ρ μ (fun d μ1 => ∃ a ds0, d = .ref a ∧ μ1 a = some (.lst ds0) ∧ db ρ μ1 (fun e μ2 => ∃ ds i k y, e = .int i ∧ μ2 a = some (.lst ds) ∧ -(2 ^ 63) ≤ i ∧ i < 2 ^ 63 ∧ seqIndex? i ds.length = some k ∧ ds[k]? = some y ∧ Q y (mset μ2 a (.lst (ds.eraseIdx k)))) E) E
theorem re_popAt {apos : Pos} (ha : RE X W a da) (hb : RE X W b db)
    (hbase : attributeBase a "pop" X.env (eval a X.env) = eval a X.env := by rfl)
    (hfew : ((backTo pos (starEach [b] X.env)).all (fun x => !x.1) && (backToKw pos (keywordEach [] X.env)).all (fun x => x.1.isSome)
      && decide (([b] : List Expr).length + ([] : List Keyword).length + (if ([] : List Keyword).isEmpty then 0 else 1) < 30)) = true := by rfl)
    (hline : (apos.endLine == pos.line) = true := by rfl) (hs : starEach [b] X.env = (false, eval b X.env) :: starEach [] X.env := by rfl) (hplain : (backTo pos (starEach [] X.env)).any (·.1) = false := by rfl) :
    RE X W (.Call (.Attribute a "pop" apos) [b] [] pos) (dPopAt da db) :=
  ⟨PE.imp (pe_bm PySem.F.plainAttrs_list PySem.F.slot_list_pop PySem.F.type_list_pop mt_popAt ha.pe (ra_cons (dr := dNil) hb ra_nil hs).pa hbase hfew hline hs hplain) fun σ H Q ⟨B, ρ, μ, QD, QE, g, s, q, k, x⟩ => by
    refine ⟨B, ρ, μ, _, QE, g, s, q, ⟨fun v d H1 B1 μ1 e1 g1 r1 q1 => ?_⟩, x⟩
    obtain ⟨p, ds0, rfl, hm, q1⟩ := q1
    obtain rfl := r1.ref_inv
    refine ⟨tyL g1 hm, B1, ρ, μ1, (fun es μ2 => match es with | [e] => ∃ ds i k y, e = .int i ∧ μ2 p = some (.lst ds) ∧ -(2 ^ 63) ≤ i ∧ i < 2 ^ 63 ∧ seqIndex? i ds.length = some k ∧ ds[k]? = some y ∧ QD y (mset μ2 p (.lst (ds.eraseIdx k))) | _ => False), QE, g1, s.mono e1, q1, fun vs es H2 B2 μ2 e2 g2 r2 q2 => ?_, x.mono e1⟩
    dsimp only at q2
    split at q2
    · obtain ⟨u0, rfl, rv⟩ := r2.one_inv
      obtain ⟨ds, i, kk, y, rfl, hm2, h1, h2, h3, h4, q2⟩ := q2
      obtain ⟨_, xs, h5, h6⟩ := g2.mo p _ hm2
      obtain ⟨u, h7, h8⟩ := h6.get h4
      obtain rfl := rv.int_inv
      exact ⟨p, xs, i, kk, u, rfl, rfl, h5, h1, h2, by rw [h6.length]; exact h3, h7, k.ok _ _ _ _ _ (e1.trans e2) (g2.put (m := .lst _) hm2 ⟨_, upd_same, h6.eraseIdx kk⟩) h8 q2⟩
    · exact q2.elim⟩

/-! ### dicts by keys that are ints or texts -/
def D.key : D → Option Key
  | .int i => some (.inl i)
  | .str x => some (.inr x)
  | _ => none
theorem Rp.keyV {K : PySem.W.Frag} {B : Hp} {v : V} {d : D} {k : Key} (r : Rp K B v d) (h : d.key = some k) : v = kV k := by
  cases r <;> simp only [D.key] at h <;> first | (cases h; rfl) | cases h
def valD (kvs : List (Key × D)) (k : Key) : Option D := (kvs.find? fun kv => decide (kv.1 = k)).map (·.2)
def putD (kvs : List (Key × D)) (k : Key) (v : D) : List (Key × D) :=
  if (kvs.any fun kv => decide (kv.1 = k)) = true then kvs.map (fun kv => if kv.1 = k then (kv.1, v) else kv) else kvs ++ [(k, v)]
theorem RpKv.length {K : PySem.W.Frag} {B : Hp} {ys : List (Key × V)} {kvs : List (Key × D)} (r : RpKv K B ys kvs) : ys.length = kvs.length := Paired.length r
theorem RpKv.val {K : PySem.W.Frag} {B : Hp} {k : Key} {d : D} : ∀ {ys : List (Key × V)} {kvs : List (Key × D)}, RpKv K B ys kvs → valD kvs k = some d → ∃ v, valV ys k = some v ∧ Rp K B v d
  | _, _, .nil, h => by cases h
  | y :: ys, z :: kvs, .cons h t, e => by
    unfold valD at e
    rw [List.find?_cons] at e
    by_cases c : z.1 = k
    · rw [decide_eq_true c] at e
      simp only [Option.map_some, Option.some.injEq] at e
      subst e
      exact ⟨y.2, valV_pos (h.1.trans c), h.2⟩
    · rw [decide_eq_false c] at e
      obtain ⟨v, h1, h2⟩ := RpKv.val t e
      exact ⟨v, by rw [valV_neg (fun q => c (h.1.symm.trans q))]; exact h1, h2⟩
theorem RpKv.any {K : PySem.W.Frag} {B : Hp} (k : Key) : ∀ {ys : List (Key × V)} {kvs : List (Key × D)}, RpKv K B ys kvs → (ys.any fun kv => decide (kv.1 = k)) = (kvs.any fun kv => decide (kv.1 = k))
  | _, _, .nil => rfl
  | y :: ys, z :: kvs, .cons h t => by
    rw [List.any_cons, List.any_cons, RpKv.any k t, h.1]
theorem RpKv.map {K : PySem.W.Frag} {B : Hp} {k : Key} {v : V} {d : D} (q : Rp K B v d) : ∀ {ys : List (Key × V)} {kvs : List (Key × D)}, RpKv K B ys kvs → RpKv K B (ys.map fun kv => if kv.1 = k then (kv.1, v) else kv) (kvs.map fun kv => if kv.1 = k then (kv.1, d) else kv)
  | _, _, .nil => .nil
  | y :: ys, z :: kvs, .cons h t => by
    rw [List.map_cons, List.map_cons]
    refine .cons ?_ (RpKv.map q t)
    by_cases c : z.1 = k
    · rw [if_pos c, if_pos (h.1.trans c)]
      exact ⟨h.1, q⟩
    · rw [if_neg c, if_neg (fun e => c (h.1.symm.trans e))]
      exact h
theorem RpKv.snoc {K : PySem.W.Frag} {B : Hp} {k : Key} {v : V} {d : D} (q : Rp K B v d) : ∀ {ys : List (Key × V)} {kvs : List (Key × D)}, RpKv K B ys kvs → RpKv K B (ys ++ [(k, v)]) (kvs ++ [(k, d)])
  | _, _, .nil => .cons ⟨rfl, q⟩ .nil
  | _, _, .cons h t => .cons h (RpKv.snoc q t)
theorem RpKv.put {K : PySem.W.Frag} {B : Hp} {k : Key} {v : V} {d : D} {ys : List (Key × V)} {kvs : List (Key × D)} (q : Rp K B v d) (r : RpKv K B ys kvs) : RpKv K B (putK ys k v) (putD kvs k d) := by
  unfold putK putD
  rw [r.any k]
  split
  · exact r.map q
  · exact r.snoc q
/-- d[k] -/
def dDGet (da db : DE) : DE := fun ρ μ Q E => da ρ μ (fun d μ1 => db ρ μ1 (fun e μ2 => ∃ a kvs k y, d = .ref a ∧ μ2 a = some (.dct kvs) ∧ e.key = some k ∧ valD kvs k = some y ∧ Q y μ2) E) E
theorem re_dget {kr : Nat} (hr : Room kr X.A) (ha : RE X W a da) (hb : RE X W b db) (hs : NoSl b) : RE X W (.Subscript a b pos) (dDGet da db) :=
  ⟨PE.imp (pe_dget (by have := hr.un; omega) ha.pe hb.pe hs) fun σ H Q ⟨B, ρ, μ, QD, QE, g, s, q, k, x⟩ => by
    refine ⟨B, ρ, μ, _, QE, g, s, q, ⟨fun v d H1 B1 μ1 e1 g1 r1 q1 => ?_⟩, x⟩
    refine ⟨B1, ρ, μ1, _, QE, g1, s.mono e1, q1, ⟨fun u e H2 B2 μ2 e2 g2 r2 q2 => ?_⟩, x.mono e1⟩
    obtain ⟨p, kvs, kk, y, rfl, hm, hk, hv, q2⟩ := q2
    obtain ⟨_, ys, h1, h2⟩ := g2.mo p _ hm
    obtain ⟨w, h3, h4⟩ := h2.val hv
    refine ⟨p, w, r1.ref_inv, ?_, k.ok _ _ H2 B2 μ2 (e1.trans e2) g2 h4 q2⟩
    rw [r2.keyV hk, ← h3]
    exact DGet.k h1⟩
/-- d[k] = v -/
def sDPutD (da db dv : DE) : DS := fun D ρ μ => dv ρ μ (fun v μ0 => da ρ μ0 (fun d μ1 => db ρ μ1 (fun e μ2 => ∃ a kvs k, d = .ref a ∧ μ2 a = some (.dct kvs) ∧ e.key = some k ∧ kvs.length < sizeLine ∧ D.nx ρ (mset μ2 a (.dct (putD kvs k v)))) D.xe) D.xe) D.xe
theorem rs_dput {dv : DE} {value : Expr} {pos' : Pos} {kr : Nat} (hr : Room kr X.A) (ha : RE X W a da) (hb : RE X W b db) (hv : RE X W value dv) (hs : swapsWith value (some (.Subscript a b pos')) pos.line X.env = pure false := by rfl) :
    RS X W (.Assign [.Subscript a b pos'] value pos) (sDPutD da db dv) :=
  ⟨PS.imp (ps_dput (by have := hr.un; omega) ha.pe hb.pe hv.pe hs) fun D σ H ⟨B, ρ, μ, DD, g, s, q, k⟩ => by
    refine ⟨B, ρ, μ, _, _, g, s, q, ⟨fun v d H1 B1 μ1 e1 g1 r1 q1 => ?_⟩, k.xe σ⟩
    refine ⟨B1, ρ, μ1, _, _, g1, s.mono e1, q1, ⟨fun u e H2 B2 μ2 e2 g2 r2 q2 => ?_⟩, (k.xe σ).mono e1⟩
    refine ⟨B2, ρ, μ2, _, _, g2, s.mono (e1.trans e2), q2, ⟨fun w f H3 B3 μ3 e3 g3 r3 q3 => ?_⟩, (k.xe σ).mono (e1.trans e2)⟩
    obtain ⟨p, kvs, kk, rfl, hm, hk, hz, q3⟩ := q3
    obtain ⟨_, ys, h1, h2⟩ := g3.mo p _ hm
    have r1' := (r1.mono e2).mono e3
    refine ⟨p, _, r2.ref_inv, (by rw [r3.keyV hk]; exact DPut.k h1 (by rw [h2.length]; exact hz)), ?_⟩
    exact k.nx σ ρ _ B3 _ ((e1.trans e2).trans e3) (g3.put (m := .dct _) hm ⟨_, upd_same, h2.put r1'⟩) (s.mono ((e1.trans e2).trans e3)) q3⟩
/-- a display {'k': e, ..} whose keys are written and unlike -/
def dPs : List (Key × DE) → Rho → Mu → (List (Key × D) → Mu → Prop) → XQ → Prop
  | [], _, μ, Q, _ => Q [] μ
  | (k, de) :: r, ρ, μ, Q, E => de ρ μ (fun d μ1 => dPs r ρ μ1 (fun kvs μ2 => Q ((k, d) :: kvs) μ2) E) E
structure RPs (X : Cx) (W : WX) (pos : Pos) (keys : List (Option Expr)) (values : List Expr) (l : List (Key × DE)) : Prop where
  pps : PPs X pos keys values (l.map fun p => (tC (kV p.1), upE X.K W p.2))
theorem rps_nil : RPs X W pos [] [] [] := ⟨pps_nil⟩
theorem rps_str {x : Str} {j : Nat} {p : Pos} {v : Expr} {ks : List (Option Expr)} {vs : List Expr} {dv : DE} {l : List (Key × DE)} (hv : RE X W v dv) (hr : RPs X W pos ks vs l) : RPs X W pos (some (.Constant (.str x) j p) :: ks) (v :: vs) ((.inr x, dv) :: l) := ⟨pps_cons (pe_str (x := x)) hv.pe hr.pps⟩
theorem ps_read {K : PySem.W.Frag} {σ : L2.St} {ρ : Rho} {QE : XQ} : ∀ (l : List (Key × DE)) {B H : Hp} {μ : Mu} {Q : List (V × V) → Hp → Prop} {QD : List (Key × D) → Mu → Prop}, Good K B H μ → SlR K B σ ρ → KtX K W B σ QE → dPs l ρ μ QD QE →
    (∀ (ys : List (Key × V)) kvs H2 B2 μ2, Ext B B2 → Good K B2 H2 μ2 → RpKv K B2 ys kvs → ys.map (·.1) = l.map (·.1) → QD kvs μ2 → Q (ys.map fun kv => (kV kv.1, kv.2)) H2) → tPairs (l.map fun p => (tC (kV p.1), upE K W p.2)) σ H Q
  | [], B, H, μ, Q, QD, g, s, x, q, k => k [] [] H B μ Ext.rfl' g .nil rfl q
  | (kk, de) :: l, B, H, μ, Q, QD, g, s, x, q, k => by
    show upE K W de σ H _
    refine ⟨B, ρ, μ, _, QE, g, s, q, ⟨fun v d H1 B1 μ1 e1 g1 r1 q1 => ?_⟩, x⟩
    refine ps_read l g1 (s.mono e1) (x.mono e1) q1 fun ys kvs H2 B2 μ2 e2 g2 r2 hk q2 => ?_
    exact k ((kk, v) :: ys) ((kk, d) :: kvs) H2 B2 μ2 (e1.trans e2) g2 (.cons ⟨rfl, r1.mono e2⟩ r2) (by rw [List.map_cons, List.map_cons, hk]) q2
theorem merge_nodup : ∀ (more kvs : List (Key × V)), (more.map (·.1)).Nodup → (∀ p ∈ more, valV kvs p.1 = none) → mergeK kvs more = kvs ++ more
  | [], kvs, _, _ => (List.append_nil kvs).symm
  | p :: r, kvs, h, h2 => by
    rw [List.map_cons, List.nodup_cons] at h
    have e1 : valV kvs p.1 = none := h2 p (List.mem_cons_self ..)
    show mergeK (putK kvs p.1 p.2) r = _
    rw [putK_new _ e1, merge_nodup r _ h.2 fun q hq => ?_, List.append_assoc]
    · rfl
    · rw [valV_snoc _ _ _ _ e1, if_neg]
      · exact h2 q (List.mem_cons_of_mem _ hq)
      · exact fun e => h.1 (by rw [← e]; exact List.mem_map_of_mem hq)
def dDict (l : List (Key × DE)) : DE := fun ρ μ Q E => ∀ p, μ p = none → dPs l ρ (mset μ p (.dct [])) (fun kvs μ2 => μ2 p = some (.dct []) ∧ Q (.ref p) (mset μ2 p (.dct kvs))) E
theorem re_dict {keys : List (Option Expr)} {values : List Expr} {l : List (Key × DE)} (h : RPs X W pos keys values l) (hall : keys.all (·.isSome) = true) (hl : keys.length = values.length) (h0 : keys ≠ []) (h15 : keys.length ≤ 15) (h16 : l.length ≤ 15) (nd : (l.map (·.1)).Nodup) :
    RE X W (.Dict keys values pos) (dDict l) :=
  ⟨PE.imp (pe_disp h.pps hall hl h0 h15) fun σ H Q ⟨B, ρ, μ, QD, QE, g, s, q, k, x⟩ => by
    intro p hp
    refine ps_read l (g.fresh (m := .dct []) hp ⟨_, upd_same, .nil⟩) s x (q p (g.free hp)) fun ys kvs H2 B2 μ2 e2 g2 r2 hk q2 => ?_
    obtain ⟨_, zs, h1, h2⟩ := g2.mo p _ q2.1
    cases h2
    refine ⟨h1, ys, rfl, ?_, ?_⟩
    · have e := congrArg List.length hk
      rw [List.length_map, List.length_map] at e
      omega
    · rw [merge_nodup ys [] (by rw [hk]; exact nd) fun _ _ => rfl, List.nil_append]
      exact k.ok _ _ _ _ _ e2 (g2.put (m := .dct kvs) q2.1 ⟨_, upd_same, r2⟩) (.ref _) q2.2⟩
end
end DL

/-! The data layer, 5: statements, targets, loops, comprehensions. -/
namespace DL
open PySem PySem.Spec PyProof.Rows L2
section
variable {X : Cx} {W : WX} {e a b c : Expr} {es : List Expr} {da db dc : DE} {dt du : DT} {dr dk : DA} {pos : Pos} {st : Stmt} {rest : List Stmt} {s1 s2 : DS}
def sNext : DS := fun D ρ μ => D.nx ρ μ
def sSeq (t u : DS) : DS := fun D ρ μ => t { D with nx := u D } ρ μ
def sRet (de : DE) : DS := fun D ρ μ => de ρ μ D.rt D.xe
def sRetN : DS := fun D _ μ => D.rt .non μ
def sDrop (de : DE) : DS := fun D ρ μ => de ρ μ (fun _ μ1 => D.nx ρ μ1) D.xe
def sIf (t : DT) (u v : DS) : DS := fun D ρ μ => t ρ μ (fun b μ1 => if b = true then u D ρ μ1 else v D ρ μ1) D.xe
def sBrk : DS := fun D ρ μ => D.bk ρ μ
def sCont : DS := fun D ρ μ => D.ct ρ μ
def sNever : DS := fun _ _ _ => False
theorem rss_nil : RSs X W [] sNext := ⟨PSs.imp pss_nil fun D σ H ⟨B, ρ, μ, DD, g, s, q, k⟩ => k.nx σ ρ H B μ Ext.rfl' g s q⟩
theorem rss_cons (h1 : RS X W st s1) (h2 : RSs X W rest s2) : RSs X W (st :: rest) (sSeq s1 s2) :=
  ⟨PSs.imp (pss_cons h1.ps h2.pss) fun D σ H ⟨B, ρ, μ, DD, g, s, q, k⟩ => ⟨B, ρ, μ, _, g, s, q, ⟨fun σ2 ρ2 H2 B2 μ2 e2 g2 s2 q2 => ⟨B2, ρ2, μ2, DD, g2, s2, q2, k.mono e2⟩, k.bk, k.ct, k.rt, k.xe⟩⟩⟩
theorem rss_one (h1 : RS X W st s1) : RSs X W [st] s1 := ⟨PSs.imp (pss_one h1.ps) fun D σ H h => h⟩
theorem rs_ret (h : RE X W e da) : RS X W (.Return (some e) pos) (sRet da) := ⟨PS.imp (ps_ret h.pe) fun D σ H ⟨B, ρ, μ, DD, g, s, q, k⟩ => ⟨B, ρ, μ, _, _, g, s, q, k.rt, k.xe σ⟩⟩
theorem rs_retN : RS X W (.Return none pos) sRetN := ⟨PS.imp ps_retN fun D σ H ⟨B, ρ, μ, DD, g, s, q, k⟩ => k.rt.ok .non .non H B μ Ext.rfl' g .non q⟩
theorem rs_expr (h : RE X W e da) (hs : swapsWith e none pos.line X.env = pure false := by rfl) : RS X W (.Expr e pos) (sDrop da) :=
  ⟨PS.imp (ps_expr h.pe hs) fun D σ H ⟨B, ρ, μ, DD, g, s, q, k⟩ => ⟨B, ρ, μ, _, _, g, s, q, ⟨fun v d H2 B2 μ2 e2 g2 r2 q2 => k.nx σ ρ H2 B2 μ2 e2 g2 (s.mono e2) q2⟩, k.xe σ⟩⟩
theorem rs_if {t u : List Stmt} (hc : RT X W c dt) (h1 : RSs X W t s1) (h2 : RSs X W u s2) : RS X W (.If c t u pos) (sIf dt s1 s2) :=
  ⟨PS.imp (ps_if hc.pt h1.pss h2.pss) fun D σ H ⟨B, ρ, μ, DD, g, s, q, k⟩ => ⟨B, ρ, μ, _, _, g, s, q, fun b H2 B2 μ2 e2 g2 q2 => by
    cases b with
    | true => exact ⟨B2, ρ, μ2, DD, g2, s.mono e2, q2, k.mono e2⟩
    | false => exact ⟨B2, ρ, μ2, DD, g2, s.mono e2, q2, k.mono e2⟩, k.xe σ⟩⟩
theorem rs_pass : RS X W (.Pass pos) sNext := ⟨PS.imp ps_pass fun D σ H ⟨B, ρ, μ, DD, g, s, q, k⟩ => k.nx σ ρ H B μ Ext.rfl' g s q⟩
theorem rs_break : RS X W (.Break pos) sBrk := ⟨PS.imp ps_break fun D σ H ⟨B, ρ, μ, DD, g, s, q, k⟩ => k.bk σ ρ H B μ Ext.rfl' g s q⟩
theorem rs_continue : RS X W (.Continue pos) sCont := ⟨PS.imp ps_continue fun D σ H ⟨B, ρ, μ, DD, g, s, q, k⟩ => k.ct σ ρ H B μ Ext.rfl' g s q⟩
theorem rs_never : RS X W st sNever := ⟨PS.imp ps_never fun D σ H ⟨B, ρ, μ, DD, g, s, q, k⟩ => q⟩
/-- the list in slot i will change no more -/
def sFreeze (i : Nat) (t : DS) : DS := fun D ρ μ => ∃ a l, ρ[i]? = some (some (.ref a)) ∧ μ a = some (.lst l) ∧ t D (ρ.set i (some (.lst l))) (mdel μ a)
theorem rs_freeze (i : Nat) (h : RS X W st s1) : RS X W st (sFreeze i s1) := ⟨PS.imp h.ps fun D σ H ⟨B, ρ, μ, DD, g, s, q, k⟩ => by
  obtain ⟨a, l, h1, h2, q⟩ := q
  obtain ⟨B2, e2, g2, r2⟩ := g.freeze h2
  obtain ⟨v, h3, h4⟩ := s.at_ i _ h1
  refine ⟨B2, _, _, DD, g2, ?_, q, k.mono e2⟩
  have := (s.mono e2).set i r2
  rw [← h4.ref_inv] at this
  have e : σ.set i (some v) = σ := by
    apply List.ext_getElem?
    intro j
    rw [List.getElem?_set]
    split
    · rename_i c
      subst c
      split
      · exact h3.symm
      · rename_i z
        exact (List.getElem?_eq_none (by omega)).symm
    · rfl
  rw [e] at this
  exact this⟩

/-! ### targets -/
abbrev DG := D → Rho → Mu → (Rho → Mu → Prop) → Prop
abbrev DGs := List D → Rho → Mu → (Rho → Mu → Prop) → Prop
def Same' (vs : List Nat) (σ σ2 : L2.St) : Prop := σ2.length = σ.length ∧ ∀ j, j ∉ vs → σ2[j]? = σ[j]?
def upG (K : PySem.W.Frag) (vs : List Nat) (dg : DG) : TG := fun v σ H Q => ∃ B ρ μ d QD, Good K B H μ ∧ SlR K B σ ρ ∧ Rp K B v d ∧ dg d ρ μ QD ∧ ∀ σ2 ρ2 H2 B2 μ2, Ext B B2 → Good K B2 H2 μ2 → SlR K B2 σ2 ρ2 → Same' vs σ σ2 → QD ρ2 μ2 → Q σ2 H2
def upGs (K : PySem.W.Frag) (vs : List Nat) (dg : DGs) : TGs := fun v σ H Q => ∃ B ρ μ d QD, Good K B H μ ∧ SlR K B σ ρ ∧ RpL K B v d ∧ dg d ρ μ QD ∧ ∀ σ2 ρ2 H2 B2 μ2, Ext B B2 → Good K B2 H2 μ2 → SlR K B2 σ2 ρ2 → Same' vs σ σ2 → QD ρ2 μ2 → Q σ2 H2
structure RG (X : Cx) (tg : Expr) (vs : List Nat) (dg : DG) : Prop where
  pg : PG X tg (upG X.K vs dg)
structure RGs (X : Cx) (tg : List Expr) (vs : List Nat) (dg : DGs) : Prop where
  pgs : PGs X tg (upGs X.K vs dg)
theorem PG.imp {tg : Expr} {t t' : TG} (h : PG X tg t) (i : ∀ v σ H Q, t' v σ H Q → t v σ H Q) : PG X tg t' := ⟨fun pins s σ H v u Q I r q => h.run pins s σ H v u Q I r (i v σ H Q q)⟩
theorem PGs.imp {tg : List Expr} {t t' : TGs} (h : PGs X tg t) (i : ∀ v σ H Q, t' v σ H Q → t v σ H Q) : PGs X tg t' := ⟨fun pins s σ H v u Q I r q => h.run pins s σ H v u Q I r (i v σ H Q q)⟩
def dName (i : Nat) : DG := fun d ρ μ Q => Q (ρ.set i (some d)) μ
def dGNil : DGs := fun ds ρ μ Q => ds = [] ∧ Q ρ μ
def dGCons (t : DG) (u : DGs) : DGs := fun ds ρ μ Q => ∃ d r, ds = d :: r ∧ t d ρ μ fun ρ1 μ1 => u r ρ1 μ1 Q
def dGTup (n : Nat) (t : DGs) : DG := fun d ρ μ Q => ∃ ds, d = .tup ds ∧ ds.length = n ∧ t ds ρ μ Q
theorem rg_name {i : Nat} {x : Str} (hN : X.N.Nodup) (hi : X.N[i]? = some x) (hx : Loc X.env.scope x) (hf : X.fn x = true ∨ X.env.scope.names.lookup x = some .local := by first | exact .inl rfl | exact .inr rfl | assumption) : RG X (.Name x pos) [i] (dName i) :=
  ⟨PG.imp (pg_name hN hi hx hf) fun v σ H Q ⟨B, ρ, μ, d, QD, g, s, r, q, k⟩ => k _ _ H B μ Ext.rfl' g (s.set i r) ⟨by simp, fun j hj => List.getElem?_set_ne (fun z => hj (by simp [z]))⟩ q⟩
theorem rgs_nil : RGs X [] [] dGNil := ⟨PGs.imp pgs_nil fun v σ H Q ⟨B, ρ, μ, d, QD, g, s, r, q, k⟩ => by
  obtain ⟨rfl, q⟩ := q
  cases r
  exact ⟨rfl, k σ ρ H B μ Ext.rfl' g s ⟨rfl, fun _ _ => rfl⟩ q⟩⟩
theorem rgs_cons {vs ws : List Nat} {t : DG} {u : DGs} (h1 : RG X e vs t) (h2 : RGs X es ws u) (hs : (assignEach (e :: es) X.env).map (·.2) = assign e X.env :: (assignEach es X.env).map (·.2) := by rfl) : RGs X (e :: es) (vs ++ ws) (dGCons t u) :=
  ⟨PGs.imp (pgs_cons h1.pg h2.pgs hs) fun v σ H Q ⟨B, ρ, μ, d, QD, g, s, r, q, k⟩ => by
    obtain ⟨d0, ds, rfl, q⟩ := q
    cases r with
    | cons r1 r2 =>
      refine ⟨_, _, rfl, B, ρ, μ, d0, _, g, s, r1, q, fun σ2 ρ2 H2 B2 μ2 e2 g2 s2 m2 q2 => ?_⟩
      refine ⟨B2, ρ2, μ2, ds, QD, g2, s2, r2.mono e2, q2, fun σ3 ρ3 H3 B3 μ3 e3 g3 s3 m3 q3 => ?_⟩
      exact k σ3 ρ3 H3 B3 μ3 (e2.trans e3) g3 s3 ⟨m3.1.trans m2.1, fun j hj => (m3.2 j (fun z => hj (List.mem_append_right _ z))).trans (m2.2 j (fun z => hj (List.mem_append_left _ z)))⟩ q3⟩
theorem rg_tup {vs : List Nat} {k : Nat} {t : DGs} {n : Nat} (hc : X.calm = true) (h : RGs X es vs t)
    (hn : (assignEach es X.env).length = n := by rfl) (hst : (assignEach es X.env).findIdx? (·.1) = none := by rfl) : RG X (.Tuple es k pos) vs (dGTup n t) :=
  ⟨PG.imp (pg_tup hc h.pgs hn hst) fun v σ H Q ⟨B, ρ, μ, d, QD, g, s, r, q, k⟩ => by
    obtain ⟨ds, rfl, hl, q⟩ := q
    obtain ⟨p, xs, rfl, h1, h2⟩ := tupV g r
    exact ⟨p, xs, rfl, h1, h2.length.trans hl, B, ρ, μ, ds, QD, g, s, h2, q, k⟩⟩
/-- xs[i] = v -/
def dGSub (da db : DE) : DG := fun d ρ μ Q => da ρ μ (fun o μ1 => db ρ μ1 (fun k μ2 => ∃ p ds i j, o = .ref p ∧ k = .int i ∧ μ2 p = some (.lst ds) ∧ ixN ds.length i = some j ∧ Q ρ (mset μ2 p (.lst (ds.set j d)))) fun _ _ => False) fun _ _ => False
theorem rg_sub (ha : RE X (fun _ _ _ _ => False) a da) (hb : RE X (fun _ _ _ _ => False) b db)
    (has : ∀ v, assign (.Subscript a b pos) X.env v = (do
      let ov ← holding [v] (eval a X.env)
      let iv ← holding [v, ov] (eval b X.env)
      standAt pos
      holding [v, ov, iv] (setItem ov iv v)
      release [v, ov, iv] []) := by intro _; rfl) : RG X (.Subscript a b pos) [] (dGSub da db) :=
  ⟨PG.imp (pg_sub ha.pe hb.pe set_list has) fun v σ H Q ⟨B, ρ, μ, d, QD, g, s, r, q, k⟩ => by
    refine ⟨B, ρ, μ, _, _, g, s, q, ⟨fun v1 d1 H1 B1 μ1 e1 g1 r1 q1 => ?_⟩, ⟨fun _ _ _ _ _ _ _ _ _ z => z.elim⟩⟩
    refine ⟨B1, ρ, μ1, _, _, g1, s.mono e1, q1, ⟨fun v2 d2 H2 B2 μ2 e2 g2 r2 q2 => ?_⟩, ⟨fun _ _ _ _ _ _ _ _ _ z => z.elim⟩⟩
    obtain ⟨p, ds, i, j, rfl, rfl, hm, hj, q2⟩ := q2
    obtain ⟨_, xs, h1, h2⟩ := g2.mo p _ hm
    refine ⟨p, xs, i, j, r1.ref_inv, r2.int_inv, h1, by rw [h2.length]; exact hj, ?_⟩
    exact k σ ρ _ B2 _ (e1.trans e2) (g2.put (m := .lst _) hm ⟨_, upd_same, RpL.set ((r.mono e1).mono e2) j h2⟩) (s.mono (e1.trans e2)) ⟨rfl, fun _ _ => rfl⟩ q2⟩
def sAsg (da : DE) (dg : DG) : DS := fun D ρ μ => da ρ μ (fun d μ1 => dg d ρ μ1 D.nx) D.xe
theorem up_asg {K : PySem.W.Frag} {vs : List Nat} {dg : DG} {D : Ends} {σ : L2.St} {H : Hp} (q : upS K W (sAsg da dg) D σ H) : tAsg (upE K W da) (upG K vs dg) D σ H := by
  obtain ⟨B, ρ, μ, DD, g, s, q, k⟩ := q
  refine ⟨B, ρ, μ, _, _, g, s, q, ⟨fun v d H1 B1 μ1 e1 g1 r1 q1 => ?_⟩, k.xe σ⟩
  exact ⟨B1, ρ, μ1, d, DD.nx, g1, s.mono e1, r1, q1, fun σ2 ρ2 H2 B2 μ2 e2 g2 s2 _ q2 => k.nx σ2 ρ2 H2 B2 μ2 (e1.trans e2) g2 s2 q2⟩
theorem rs_asg {tg : Expr} {vs : List Nat} {dg : DG} (he : RE X W e da) (hg : RG X tg vs dg) (hs : swapsWithSole [tg] e pos.line X.env = pure false := by rfl) (hw : swappedStores [tg] e X.env = pure none := by rfl)
    (h1 : (assignEach [tg] X.env).map (·.2) = [assign tg X.env] := by rfl) : RS X W (.Assign [tg] e pos) (sAsg da dg) := ⟨PS.imp (ps_asg he.pe hg.pg hs hw h1) fun _ _ _ q => up_asg q⟩
theorem rs_set {i : Nat} {x : Str} {pos' : Pos} (hN : X.N.Nodup) (hi : X.N[i]? = some x) (hx : Loc X.env.scope x) (he : RE X W e da) (hs : swapsWith e (some (.Name x pos')) pos.line X.env = pure false := by rfl) (hf : X.fn x = true ∨ X.env.scope.names.lookup x = some .local := by first | exact .inl rfl | exact .inr rfl | assumption) :
    RS X W (.Assign [.Name x pos'] e pos) (sAsg da (dName i)) :=
  ⟨PS.imp (ps_set hN hi hx he.pe hs hf) fun D σ H ⟨B, ρ, μ, DD, g, s, q, k⟩ => ⟨B, ρ, μ, _, _, g, s, q, ⟨fun v d H1 B1 μ1 e1 g1 r1 q1 => k.nx _ _ H1 B1 μ1 e1 g1 ((s.mono e1).set i r1) q1⟩, k.xe σ⟩⟩
/-- a, b = x, y, plain local names -/
def sPar (i j : Nat) (dr : DA) : DS := fun D ρ μ => dr ρ μ (fun ds μ1 => match ds with
  | [d, e] => D.nx ((ρ.set i (some d)).set j (some e)) μ1
  | _ => False) D.xe
theorem up_par {K : PySem.W.Frag} {i j : Nat} {D : Ends} {σ : L2.St} {H : Hp} (q : upS K W (sPar i j dr) D σ H) : tPar i j (upA K W dr) D σ H := by
  obtain ⟨B, ρ, μ, DD, g, s, q, k⟩ := q
  refine ⟨B, ρ, μ, _, _, g, s, q, fun vs ds H1 B1 μ1 e1 g1 r1 q1 => ?_, k.xe σ⟩
  split at q1
  · obtain ⟨v, w, rfl, h1, h2⟩ := r1.two_inv
    exact ⟨v, w, rfl, k.nx _ _ H1 B1 μ1 e1 g1 (((s.mono e1).set i h1).set j h2) q1⟩
  · exact q1.elim
/-- x op= e of numbers -/
def sAugI (i : Nat) (f : Int → Int → Int) (da : DE) : DS := fun D ρ μ => ∃ n, ρ[i]? = some (some (.int n)) ∧ da ρ μ (fun d μ1 => ∃ m, d = .int m ∧ D.nx (ρ.set i (some (.int (f n m)))) μ1) D.xe
theorem rs_augI {i : Nat} {x : Str} {op : Operator} {f : Int → Int → Int} {pos' : Pos} (ho : PIp X op (ipI f)) (hN : X.N.Nodup) (hi : X.N[i]? = some x) (hx : Loc X.env.scope x) (he : RE X W e da) (hf : X.fn x = true ∨ X.env.scope.names.lookup x = some .local := by first | exact .inl rfl | exact .inr rfl | assumption) :
    RS X W (.AugAssign (.Name x pos') op e pos) (sAugI i f da) :=
  ⟨PS.imp (ps_aug hN hi hx he.pe ho hf) fun D σ H ⟨B, ρ, μ, DD, g, s, q, k⟩ => by
    obtain ⟨n, h1, q⟩ := q
    obtain ⟨v, h2, h3⟩ := s.at_ i _ h1
    refine ⟨v, h2, B, ρ, μ, _, _, g, s, q, ⟨fun u d H1 B1 μ1 e1 g1 r1 q1 => ?_⟩, k.xe σ⟩
    obtain ⟨m, rfl, q1⟩ := q1
    exact ⟨n, m, h3.int_inv, r1.int_inv, k.nx _ _ H1 B1 μ1 e1 g1 ((s.mono e1).set i (.int _)) q1⟩⟩

/-! ### what is walked -/
abbrev DI := Rho → Mu → (List D → (Mu → Prop) → Mu → Prop) → XQ → Prop
/-- the turns of J over B are the items ds, while keep holds -/
def ItOk (K : PySem.W.Frag) (J : It) (B : Hp) (ds : List D) (keep : Mu → Prop) : Prop := ∀ i B' H' μ', Ext B B' → Good K B' H' μ' → keep μ' →
  (∀ d, ds[i]? = some d → J.go i H' ∧ ∀ x H2, J.yld i H' x H2 → ∃ B2, Ext B' B2 ∧ Good K B2 H2 μ' ∧ Rp K B2 x d) ∧ (ds.length ≤ i → J.stop i H')
structure RI (X : Cx) (W : WX) (tg iter : Expr) (di : DI) : Prop where
  pi : ∃ wi, PI X tg iter wi ∧ ∀ B ρ μ σ H QI QE (R : It → Hp → Prop), Good X.K B H μ → SlR X.K B σ ρ → di ρ μ QI QE → KtX X.K W B σ QE →
    (∀ J H1 B1 μ1 ds keep, Ext B B1 → Good X.K B1 H1 μ1 → ItOk X.K J B1 ds keep → QI ds keep μ1 → R J H1) → wi σ H R
/-- a list or a tuple -/
def iSeq (K : PySem.W.Frag) (tl : TE) : TI := fun σ H R => tl σ H fun x H1 => ∃ a, x = .ref a ∧ (((∃ xs, SqL K H1 a xs) ∧ R (Itl K a) H1) ∨ ((∃ xs, SqT K H1 a xs) ∧ R (Itt K a) H1))
theorem pi_seq {tg l : Expr} {tl : TE} (hl : PE X l tl) : PI X tg l (iSeq X.K tl) := by
  refine ⟨fun pins s σ H R I h => ?_⟩
  refine thn (hl.run pins s σ H _ I h) fun v s1 ⟨x, H1, I1, r1, q1⟩ => ?_
  obtain ⟨a, e, q1⟩ := q1
  subst e
  have fpq : ∀ o, ∀ b ∈ [s1.heap.objs.size], FpOk X pins H1 b := fun (o : Unit) b hb => by
    have e : b = s1.heap.objs.size := by simpa using hb
    subst e
    exact I1.fpOk (Nat.le_refl _) (I1.hok.fresh (Nat.le_refl _))
  cases r1
  rcases q1 with ⟨⟨xs, hq⟩, q⟩ | ⟨⟨xs, hq⟩, q⟩
  · obtain ⟨its, rv, p, hz⟩ := I1.list hq
    refine wpAny_pyIter_list p.isList ?_
    exact ⟨s1.heap.objs.size, [s1.heap.objs.size], _, _, H1, rfl, I1.kept (t' := s1.toks) fun b o e => Heap.get?_push_of_some _ e, turn_list a _, ⟨_, Heap.get?_push_size _ rfl, rfl, rfl⟩, fpq (), q⟩
  · obtain ⟨its, rv, p, hz⟩ := I1.tuple hq
    refine wpAny_pyIter_tuple (show s1.heap.IsTuple a its.toArray from p) ?_
    exact ⟨s1.heap.objs.size, [s1.heap.objs.size], _, _, H1, rfl, I1.kept (t' := s1.toks) fun b o e => Heap.get?_push_of_some _ e, turn_tuple a _, ⟨_, Heap.get?_push_size _ rfl, rfl, rfl⟩, fpq (), q⟩
def keepOf (d : D) (ds : List D) : Mu → Prop := match d with
  | .ref a => fun μ => μ a = some (.lst ds)
  | _ => fun _ => True
def iSeqD (da : DE) : DI := fun ρ μ Q E => da ρ μ (fun d μ1 => ∃ ds, seqOf μ1 d = some ds ∧ Q ds (keepOf d ds) μ1) E
theorem itl_ok {K : PySem.W.Frag} {B : Hp} {a : Addr} {ds : List D} {keep : Mu → Prop} (h : ∀ B' H' μ', Ext B B' → Good K B' H' μ' → keep μ' → ∃ xs, SqL K H' a xs ∧ RpL K B' xs ds) : ItOk K (Itl K a) B ds keep := by
  intro i B' H' μ' e g k
  obtain ⟨xs, h1, h2⟩ := h B' H' μ' e g k
  refine ⟨fun d hd => ?_, fun hl => ⟨xs, h1, by rw [h2.length]; exact hl⟩⟩
  obtain ⟨v, hv, rv⟩ := h2.get hd
  refine ⟨⟨xs, v, h1, hv⟩, fun x H2 y => ?_⟩
  obtain ⟨rfl, y⟩ := y
  have := y xs h1
  rw [hv] at this
  cases this
  exact ⟨B', Ext.rfl', g, rv⟩
theorem itt_ok {K : PySem.W.Frag} {B : Hp} {a : Addr} {ds : List D} {keep : Mu → Prop} (h : ∀ B' H' μ', Ext B B' → Good K B' H' μ' → keep μ' → ∃ xs, SqT K H' a xs ∧ RpL K B' xs ds) : ItOk K (Itt K a) B ds keep := by
  intro i B' H' μ' e g k
  obtain ⟨xs, h1, h2⟩ := h B' H' μ' e g k
  refine ⟨fun d hd => ?_, fun hl => ⟨xs, h1, by rw [h2.length]; exact hl⟩⟩
  obtain ⟨v, hv, rv⟩ := h2.get hd
  refine ⟨⟨xs, v, h1, hv⟩, fun x H2 y => ?_⟩
  obtain ⟨rfl, y⟩ := y
  have := y xs h1
  rw [hv] at this
  cases this
  exact ⟨B', Ext.rfl', g, rv⟩
theorem ri_seq {tg : Expr} (ha : RE X W a da) : RI X W tg a (iSeqD da) := ⟨_, pi_seq ha.pe, by
  intro B ρ μ σ H QI QE R g s q x k
  refine ⟨B, ρ, μ, _, QE, g, s, q, ⟨fun v d H1 B1 μ1 e1 g1 r1 q1 => ?_⟩, x⟩
  obtain ⟨ds, hd, q1⟩ := q1
  rcases seqOf_inv hd with rfl | rfl | hl
  · have r1' := r1
    obtain ⟨p, xs, rfl, h1, h2⟩ := r1.tup_inv
    refine ⟨p, rfl, .inr ⟨⟨xs, ext_t g1.ex h1⟩, k _ H1 B1 μ1 ds _ e1 g1 (itt_ok fun B' H' μ' e g' _ => ⟨xs, ext_t (e.trans g'.ex) h1, h2.mono e⟩) q1⟩⟩
  · obtain ⟨p, xs, rfl, h1, h2⟩ := r1.arg_inv
    exact ⟨p, rfl, .inl ⟨⟨xs, ext_l g1.ex h1⟩, k _ H1 B1 μ1 ds _ e1 g1 (itl_ok fun B' H' μ' e g' _ => ⟨xs, ext_l (e.trans g'.ex) h1, h2.mono e⟩) q1⟩⟩
  · rcases listOf_inv hl with rfl | ⟨p, rfl, hm⟩
    · obtain ⟨p, xs, rfl, h1, h2⟩ := r1.lst_inv
      exact ⟨p, rfl, .inl ⟨⟨xs, .inl (ext_rd g1.ex h1)⟩, k _ H1 B1 μ1 ds _ e1 g1 (itl_ok fun B' H' μ' e g' _ => ⟨xs, .inl (ext_rd (e.trans g'.ex) h1), h2.mono e⟩) q1⟩⟩
    · obtain ⟨_, xs, h1, h2⟩ := g1.mo p _ hm
      refine ⟨p, r1.ref_inv, .inl ⟨⟨xs, .inl (.inl h1)⟩, k _ H1 B1 μ1 ds _ e1 g1 (itl_ok fun B' H' μ' e g' kp => ?_) q1⟩⟩
      obtain ⟨_, ys, h3, h4⟩ := g'.mo p _ kp
      exact ⟨ys, .inl (.inl h3), h4⟩⟩
/-- range(b), range(a, b) -/
def rng (lo : Int) (n : Nat) : List D := (List.range n).map fun i => .int (lo + (i : Nat))
def iRng1D (da : DE) : DI := fun ρ μ Q E => da ρ μ (fun d μ1 => ∃ j, d = .int j ∧ -(2 ^ 62) ≤ j ∧ j < 2 ^ 62 ∧ Q (rng 0 j.toNat) (fun _ => True) μ1) E
def iRng2D (da db : DE) : DI := fun ρ μ Q E => da ρ μ (fun d μ1 => db ρ μ1 (fun e μ2 => ∃ i j, d = .int i ∧ e = .int j ∧ (-(2 ^ 62) ≤ i ∧ i < 2 ^ 62 ∧ -(2 ^ 62) ≤ j ∧ j < 2 ^ 62) ∧ Q (rng i (j - i).toNat) (fun _ => True) μ2) E) E
theorem itr_ok {K : PySem.W.Frag} {B : Hp} {lo : Int} {n : Nat} {keep : Mu → Prop} : ItOk K (Itr lo n) B (rng lo n) keep := by
  intro i B' H' μ' e g k
  refine ⟨fun d hd => ?_, fun hl => by unfold rng at hl; show n ≤ i; simpa using hl⟩
  unfold rng at hd
  rw [List.getElem?_map] at hd
  by_cases c : i < n
  · rw [List.getElem?_range c] at hd
    cases hd
    refine ⟨c, fun x H2 y => ?_⟩
    obtain ⟨rfl, rfl⟩ := y
    exact ⟨B', Ext.rfl', g, .int _⟩
  · rw [List.getElem?_eq_none (by simpa using c)] at hd
    cases hd
theorem ri_range1 {tg : Expr} {p : Pos} (hg : Gl X "range") (hm : X.mg "range" = none) (ha : RE X W a da) (hs : starEach [a] X.env = [(false, eval a X.env)] := by rfl) : RI X W tg (.Call (.Name "range" p) [a] [] pos) (iRng1D da) :=
  ⟨_, pi_range1 hg hm (ra_cons ha ra_nil (hs.trans (by rfl))).pa hs, by
    intro B ρ μ σ H QI QE R g s q x k
    refine ⟨B, ρ, μ, (fun ds μ1 => match ds with | [d] => ∃ j, d = .int j ∧ -(2 ^ 62) ≤ j ∧ j < 2 ^ 62 ∧ QI (rng 0 j.toNat) (fun _ => True) μ1 | _ => False), QE, g, s, q, fun vs ds H1 B1 μ1 e1 g1 r1 q1 => ?_, x⟩
    dsimp only at q1
    split at q1
    · obtain ⟨u, rfl, r⟩ := r1.one_inv
      obtain ⟨j, rfl, h1, h2, q1⟩ := q1
      exact ⟨j, by rw [r.int_inv], h1, h2, k _ H1 B1 μ1 _ _ e1 g1 itr_ok q1⟩
    · exact q1.elim⟩
theorem ri_range2 {tg : Expr} {p : Pos} (hg : Gl X "range") (hm : X.mg "range" = none) (ha : RE X W a da) (hb : RE X W b db) (hs : starEach [a, b] X.env = [(false, eval a X.env), (false, eval b X.env)] := by rfl) (hs2 : starEach [b] X.env = [(false, eval b X.env)] := by rfl) :
    RI X W tg (.Call (.Name "range" p) [a, b] [] pos) (iRng2D da db) :=
  ⟨_, pi_range2 hg hm (ra_cons ha (ra_cons hb ra_nil (hs2.trans (by rfl))) (hs.trans (by rw [hs2]))).pa hs hs2, by
    intro B ρ μ σ H QI QE R g s q x k
    refine ⟨B, ρ, μ, (fun ds μ1 => match ds with | [d, e] => ∃ i j, d = .int i ∧ e = .int j ∧ (-(2 ^ 62) ≤ i ∧ i < 2 ^ 62 ∧ -(2 ^ 62) ≤ j ∧ j < 2 ^ 62) ∧ QI (rng i (j - i).toNat) (fun _ => True) μ1 | _ => False), QE, g, s, q, fun vs ds H1 B1 μ1 e1 g1 r1 q1 => ?_, x⟩
    dsimp only at q1
    split at q1
    · obtain ⟨u, v, rfl, r, r'⟩ := r1.two_inv
      obtain ⟨i, j, rfl, rfl, h1, q1⟩ := q1
      exact ⟨i, j, by rw [r.int_inv, r'.int_inv], h1, k _ H1 B1 μ1 _ _ e1 g1 itr_ok q1⟩
    · exact q1.elim⟩

/-! ### for -/
def forBody (dg : DG) (body : DS) (D : DEnds) (ρ : Rho) : List DL.D → (Mu → Prop) → Mu → Prop := fun ds keep μ1 => ∃ P : Nat → Rho → Mu → Prop, P 0 ρ μ1 ∧ (∀ i ρ' μ', i ≤ ds.length → P i ρ' μ' → keep μ') ∧
  (∀ i d ρ' μ', ds[i]? = some d → P i ρ' μ' → dg d ρ' μ' fun ρ2 μ2 => body { D with nx := P (i + 1), ct := P (i + 1), bk := D.nx } ρ2 μ2) ∧ (∀ ρ' μ', P ds.length ρ' μ' → D.nx ρ' μ')
def sFor (di : DI) (dg : DG) (body : DS) : DS := fun D ρ μ => di ρ μ (forBody dg body D ρ) D.xe
theorem rs_for {tg iter : Expr} {body : List Stmt} {di : DI} {dg : DG} {vs : List Nat} (hp : PassesOwn (model X.prog X.w) X.A X.env X.xe) (hc : X.calm = true) (hi : RI X W tg iter di) (hg : RG X tg vs dg) (hb : RSs X W body s1)
    (hs : ∀ x, foldedSetIterable iter X.env x = pure x := by intro _; rfl) : RS X W (.For tg iter body [] pos) (sFor di dg s1) := by
  obtain ⟨wi, hw, hr⟩ := hi.pi
  refine ⟨PS.imp (ps_for hp hc hw hg.pg hb.pss hs) fun D σ H ⟨B, ρ, μ, DD, g, s, q, k⟩ => ?_⟩
  refine hr B ρ μ σ H _ DD.xe _ g s q (k.xe σ) fun J H1 B1 μ1 ds keep e1 g1 ok q1 => ?_
  obtain ⟨P, p0, pk, pt, pe⟩ := q1
  refine ⟨fun i m σ' H' => m = ds.length - i ∧ i ≤ ds.length ∧ ∃ B' ρ' μ', Ext B1 B' ∧ Good X.K B' H' μ' ∧ SlR X.K B' σ' ρ' ∧ P i ρ' μ', ⟨ds.length, by simp, Nat.zero_le _, B1, ρ, μ1, Ext.rfl', g1, s.mono e1, p0⟩, ?_⟩
  rintro i m σ' H' ⟨rfl, hil, B', ρ', μ', e', g', s', p'⟩
  obtain ⟨o1, o2⟩ := ok i B' H' μ' e' g' (pk i ρ' μ' hil p')
  by_cases hlt : i < ds.length
  · obtain ⟨hgo, hy⟩ := o1 ds[i] (by simp [hlt])
    refine .inr ⟨hgo, fun σ2 H2 => ∃ B2 ρ2 μ2, Ext B1 B2 ∧ Good X.K B2 H2 μ2 ∧ SlR X.K B2 σ2 ρ2 ∧ P (i + 1) ρ2 μ2, fun σ2 H2 ⟨B2, ρ2, μ2, h1, h2, h3, h4⟩ => ⟨ds.length - (i + 1), by omega, rfl, hlt, B2, ρ2, μ2, h1, h2, h3, h4⟩, fun x H2 y => ?_⟩
    obtain ⟨B2, e2, g2, r2⟩ := hy x H2 y
    refine ⟨B2, ρ', μ', _, _, g2, s'.mono e2, r2, pt i _ ρ' μ' (by simp [hlt]) p', fun σ3 ρ3 H3 B3 μ3 e3 g3 s3 _ q3 => ?_⟩
    have e03 := (e'.trans e2).trans e3
    have k3 := k.mono (e1.trans e03)
    refine ⟨B3, ρ3, μ3, _, g3, s3, q3, ⟨fun σ4 ρ4 H4 B4 μ4 e4 g4 s4 q4 => ?_, fun σ4 ρ4 H4 B4 μ4 e4 g4 s4 q4 => k3.nx σ4 ρ4 H4 B4 μ4 e4 g4 s4 q4, fun σ4 ρ4 H4 B4 μ4 e4 g4 s4 q4 => ?_, k3.rt, k3.xe⟩⟩
    · exact ⟨B4, ρ4, μ4, e03.trans e4, g4, s4, q4⟩
    · exact ⟨B4, ρ4, μ4, e03.trans e4, g4, s4, q4⟩
  · have e : i = ds.length := by omega
    subst e
    exact .inl ⟨o2 (Nat.le_refl _), k.nx σ' ρ' H' B' μ' (e1.trans e') g' s' (pe ρ' μ' p')⟩
/-! ### while -/
def sWhile (t : DT) (body : DS) : DS := fun D ρ μ => ∃ P : Nat → Rho → Mu → Prop, (∃ m, P m ρ μ) ∧ ∀ m ρ' μ', P m ρ' μ' → t ρ' μ' (fun b μ1 => if b = true then body { D with nx := fun ρ2 μ2 => ∃ m', m' < m ∧ P m' ρ2 μ2, ct := fun ρ2 μ2 => ∃ m', m' < m ∧ P m' ρ2 μ2, bk := D.nx } ρ' μ1 else D.nx ρ' μ1) D.xe
theorem rs_while {body : List Stmt} (hp : PassesOwn (model X.prog X.w) X.A X.env X.xe) (hc : RT X W c dt) (hb : RSs X W body s1) : RS X W (.While c body [] pos) (sWhile dt s1) := by
  refine ⟨PS.imp (ps_while hp hc.pt hb.pss) fun D σ H ⟨B, ρ, μ, DD, g, s, q, k⟩ => ?_⟩
  obtain ⟨P, ⟨m0, p0⟩, pt⟩ := q
  refine ⟨fun m σ' H' => ∃ B' ρ' μ', Ext B B' ∧ Good X.K B' H' μ' ∧ SlR X.K B' σ' ρ' ∧ P m ρ' μ', ⟨m0, B, ρ, μ, Ext.rfl', g, s, p0⟩, ?_⟩
  rintro m σ' H' ⟨B', ρ', μ', e', g', s', p'⟩
  refine ⟨B', ρ', μ', _, DD.xe, g', s', pt m ρ' μ' p', fun b H2 B2 μ2 e2 g2 q2 => ?_, (k.xe σ').mono e'⟩
  cases b with
  | false => exact k.nx σ' ρ' H2 B2 μ2 (e'.trans e2) g2 (s'.mono e2) q2
  | true =>
    refine ⟨fun σ3 H3 => ∃ m', m' < m ∧ ∃ B3 ρ3 μ3, Ext B B3 ∧ Good X.K B3 H3 μ3 ∧ SlR X.K B3 σ3 ρ3 ∧ P m' ρ3 μ3, fun σ3 H3 ⟨m', h1, h2⟩ => ⟨m', h1, h2⟩, ?_⟩
    have k2 := k.mono (e'.trans e2)
    refine ⟨B2, ρ', μ2, _, g2, s'.mono e2, q2, ⟨fun σ4 ρ4 H4 B4 μ4 e4 g4 s4 ⟨m', h1, h2⟩ => ⟨m', h1, B4, ρ4, μ4, (e'.trans e2).trans e4, g4, s4, h2⟩, fun σ4 ρ4 H4 B4 μ4 e4 g4 s4 q4 => k2.nx σ4 ρ4 H4 B4 μ4 e4 g4 s4 q4, fun σ4 ρ4 H4 B4 μ4 e4 g4 s4 ⟨m', h1, h2⟩ => ⟨m', h1, B4, ρ4, μ4, (e'.trans e2).trans e4, g4, s4, h2⟩, k2.rt, k2.xe⟩⟩
/-! ### [e for x in xs if t] -/
def wipeD (ρ : Rho) : List Nat → Rho
  | [] => ρ
  | v :: vs => (wipeD ρ vs).set v none
theorem SlR.wipe {K : PySem.W.Frag} {B : Hp} {σ : L2.St} {ρ : Rho} (s : SlR K B σ ρ) : ∀ vs, SlR K B (wipe σ vs) (wipeD ρ vs)
  | [] => s
  | v :: vs => by
    have ih := s.wipe vs
    refine ⟨by unfold L2.wipe wipeD; simp [ih.len], fun i d h => ?_⟩
    unfold wipeD at h
    unfold L2.wipe
    by_cases c : v = i
    · subst c
      rw [List.getElem?_set] at h
      simp only [if_true] at h
      split at h <;> cases h
    · rw [List.getElem?_set_ne c] at h ⊢
      exact ih.at_ i d h
theorem wipe_same {σ σ2 : L2.St} : ∀ {vs ws : List Nat}, (∀ v ∈ vs, v ∈ ws) → Same' vs (wipe σ ws) σ2 → wipe σ2 ws = wipe σ ws := by
  intro vs ws hv h
  apply List.ext_getElem?
  intro j
  by_cases hj : j ∈ ws
  · have key : ∀ (τ : L2.St) (us : List Nat), j ∈ us → (wipe τ us)[j]? = if j < τ.length then some none else none := by
      intro τ us
      induction us with
      | nil => intro h; cases h
      | cons u us ih =>
        intro hm
        unfold wipe
        rw [List.getElem?_set, wipe_length]
        by_cases c : u = j
        · rw [if_pos c]
          subst c
          rfl
        · rw [if_neg c]
          exact ih (by rcases List.mem_cons.mp hm with e | e; exact absurd e.symm c; exact e)
    rw [key σ2 ws hj, key σ ws hj, h.1, wipe_length]
  · rw [wipe_out hj, h.2 j (fun z => hj (hv j z))]
theorem mdel_mset {μ : Mu} {p : Addr} {m : MO} (h : μ p = none) : mdel (mset μ p m) p = μ := by
  funext b
  unfold mdel mset
  by_cases c : b = p
  · rw [if_pos c, c, h]
  · rw [if_neg c, if_neg c]
def tTrue : DT := fun _ μ Q _ => Q true μ
structure RTs (X : Cx) (W : WX) (ifs : List Expr) (dt : DT) : Prop where
  pts : PTs X ifs (upT X.K W dt)
theorem PTs.imp {ifs : List Expr} {t t' : TT} (h : PTs X ifs t) (i : ∀ σ H Q, t' σ H Q → t σ H Q) : PTs X ifs t' := ⟨fun pins s σ H Q I q => h.run pins s σ H Q I (i σ H Q q)⟩
theorem rts_nil : RTs X W [] tTrue := ⟨PTs.imp pts_nil fun σ H Q ⟨B, ρ, μ, QD, QE, g, s, q, k, x⟩ => k true H B μ Ext.rfl' g q⟩
theorem rts_one (h : RT X W c dt) : RTs X W [c] dt := ⟨pts_one h.pt⟩
/-- the list at p grows; at the end it stands still (z = false) or will be changed (z = true) -/
def lcBody (z : Bool) (dg : DG) (dt : DT) (de : DE) (ws : List Nat) (ρ : Rho) (Q : DQ) : List D → (Mu → Prop) → Mu → Prop := fun ds keep μ1 => ∀ p, μ1 p = none → ∃ P : Nat → List D → Mu → Prop, P 0 [] μ1 ∧ (∀ i acc μ', P i acc μ' → μ' p = none ∧ keep (mset μ' p (.lst acc)) ∧ acc.length ≤ i) ∧ ds.length ≤ sizeLine ∧
  (∀ i d acc μ', ds[i]? = some d → P i acc μ' → dg d (wipeD ρ ws) (mset μ' p (.lst acc)) fun ρ2 μ2 => dt ρ2 μ2 (fun b μ3 => if b = true then de ρ2 μ3 (fun y μ4 => μ4 p = some (.lst acc) ∧ P (i + 1) (acc ++ [y]) (mdel μ4 p)) (fun _ _ => False) else μ3 p = some (.lst acc) ∧ P (i + 1) acc (mdel μ3 p)) (fun _ _ => False)) ∧
  (∀ acc μ', P ds.length acc μ' → if z = true then Q (.ref p) (mset μ' p (.lst acc)) else Q (.lst acc) μ')
def dLc (z : Bool) (di : DI) (dg : DG) (dt : DT) (de : DE) (ws : List Nat) : DE := fun ρ μ Q E => di ρ μ (lcBody z dg dt de ws ρ Q) E
theorem mset_back {μ : Mu} {p : Addr} {m : MO} (h : μ p = some m) : mset (mdel μ p) p m = μ := by
  funext b
  unfold mset mdel
  by_cases c : b = p
  · rw [if_pos c, c, h]
  · rw [if_neg c, if_neg c]
theorem up_lc {z : Bool} {tg iter : Expr} {di : DI} {dg : DG} {de : DE} {vs ws : List Nat} {wi : TI} (hv : ∀ v ∈ vs, v ∈ ws) (hr : ∀ B ρ μ σ H QI QE (R : It → Hp → Prop), Good X.K B H μ → SlR X.K B σ ρ → di ρ μ QI QE → KtX X.K W B σ QE →
    (∀ J H1 B1 μ1 ds keep, Ext B B1 → Good X.K B1 H1 μ1 → ItOk X.K J B1 ds keep → QI ds keep μ1 → R J H1) → wi σ H R) {σ : L2.St} {H : Hp} {Q : VK} (q : upE X.K W (dLc z di dg dt de ws) σ H Q) :
    tLc wi (upG X.K vs dg) (upT X.K (fun _ _ _ _ => False) dt) (upE X.K (fun _ _ _ _ => False) de) ws σ H Q := by
  obtain ⟨B, ρ, μ, QD, QE, g, s, q, k, x⟩ := q
  refine hr B ρ μ σ H _ QE _ g s q x fun J H1 B1 μ1 ds keep e1 g1 ok q1 => ?_
  intro p hp
  obtain ⟨P, p0, pk, hz, pt, pe⟩ := q1 p (g1.free hp)
  refine ⟨fun i m H' => m = ds.length - i ∧ i ≤ ds.length ∧ ∃ B' μ' acc, Ext B1 B' ∧ Good X.K B' H' (mset μ' p (.lst acc)) ∧ P i acc μ', ⟨ds.length, by simp, Nat.zero_le _, B1, μ1, [], Ext.rfl', g1.fresh (m := .lst []) hp ⟨_, upd_same, .nil⟩, p0⟩, ?_⟩
  rintro i m H' ⟨rfl, hil, B', μ', acc, e', g', p'⟩
  obtain ⟨hn, hk, ha⟩ := pk i acc μ' p'
  obtain ⟨o1, o2⟩ := ok i B' H' _ e' g' hk
  by_cases hlt : i < ds.length
  · obtain ⟨hgo, hy⟩ := o1 ds[i] (by simp [hlt])
    refine .inr ⟨hgo, fun H2 => ∃ B2 μ2 acc2, Ext B1 B2 ∧ Good X.K B2 H2 (mset μ2 p (.lst acc2)) ∧ P (i + 1) acc2 μ2, fun H2 ⟨B2, μ2, acc2, h1, h2, h3⟩ => ⟨ds.length - (i + 1), by omega, rfl, hlt, B2, μ2, acc2, h1, h2, h3⟩, fun y H2 yy => ?_⟩
    obtain ⟨B2, e2, g2, r2⟩ := hy y H2 yy
    refine ⟨B2, _, _, _, _, g2, ((s.mono (e1.trans (e'.trans e2))).wipe ws), r2, pt i _ acc μ' (by simp [hlt]) p', fun σ3 ρ3 H3 B3 μ3 e3 g3 s3 m3 q3 => ⟨wipe_same hv m3, ?_⟩⟩
    refine ⟨B3, ρ3, μ3, _, _, g3, s3, q3, fun b H4 B4 μ4 e4 g4 q4 => ?_, ⟨fun _ _ _ _ _ _ _ _ _ z => z.elim⟩⟩
    have e04 := ((e'.trans e2).trans e3).trans e4
    cases b with
    | false =>
      refine ⟨B4, mdel μ4 p, acc, e04, ?_, q4.2⟩
      rw [mset_back q4.1]
      exact g4
    | true =>
      refine ⟨B4, ρ3, μ4, _, _, g4, s3.mono e4, q4, ⟨fun v d H5 B5 μ5 e5 g5 r5 q5 => ?_⟩, ⟨fun _ _ _ _ _ _ _ _ _ z => z.elim⟩⟩
      obtain ⟨hm, q5⟩ := q5
      obtain ⟨_, xs, h1, h2⟩ := g5.mo p _ hm
      refine ⟨xs, h1, by rw [h2.length]; omega, B5, mdel μ5 p, acc ++ [d], e04.trans e5, ?_, q5⟩
      have := g5.put (o := .lst (xs ++ [v])) (m := .lst (acc ++ [d])) hm ⟨_, upd_same, h2.append (.cons r5 .nil)⟩
      have e : mset (mdel μ5 p) p (.lst (acc ++ [d])) = mset μ5 p (.lst (acc ++ [d])) := by
        funext b
        unfold mset mdel
        by_cases c : b = p
        · rw [if_pos c, if_pos c]
        · rw [if_neg c, if_neg c, if_neg c]
      rw [e]
      exact this
  · have e : i = ds.length := by omega
    subst e
    refine .inl ⟨o2 (Nat.le_refl _), ?_⟩
    have qe := pe acc μ' p'
    cases z with
    | true => exact k.ok _ _ H' B' _ (e1.trans e') g' (.ref p) qe
    | false =>
      obtain ⟨B3, e3, g3, r3⟩ := g'.freeze (mset_same (m := .lst acc))
      rw [mdel_mset hn] at g3
      exact k.ok _ _ H' B3 μ' (e1.trans (e'.trans e3)) g3 r3 qe
theorem re_lc (z : Bool) {tg iter elt : Expr} {ifs : List Expr} {scope : Scope} {own : List (Str × Nat)} {di : DI} {dg : DG} {de : DE} {vs : List Nat} (hc : X.calm = true) (hN : X.N.Nodup) (hi : RI X W tg iter di) (ok : BlkOk X.N X.env.scope scope own) (hv : ∀ v ∈ vs, v ∈ own.map (·.2))
    (hg : ∀ (s : Shared) (H : Hp) (C : Addr) (cl : List (Str × Addr)) (fp : List Addr), RG (X.blk s H scope (compEnvC scope cl C X.env) fp) tg vs dg)
    (ht : ∀ (s : Shared) (H : Hp) (C : Addr) (cl : List (Str × Addr)) (fp : List Addr), RTs (X.blk s H scope (compEnvC scope cl C X.env) fp) (fun _ _ _ _ => False) ifs dt)
    (he : ∀ (s : Shared) (H : Hp) (C : Addr) (cl : List (Str × Addr)) (fp : List Addr), RE (X.blk s H scope (compEnvC scope cl C X.env) fp) (fun _ _ _ _ => False) elt de) (hs : ∀ x, foldedSetIterable iter X.env x = pure x := by intro _; rfl) :
    RE X W (.ListComp elt [⟨tg, iter, ifs, 0⟩] scope pos) (dLc z di dg dt de (own.map (·.2))) := by
  obtain ⟨wi, hw, hr⟩ := hi.pi
  exact ⟨PE.imp (pe_lc (g := upG X.K vs dg) (tt := upT X.K (fun _ _ _ _ => False) dt) (te := upE X.K (fun _ _ _ _ => False) de) hc hN hw ok (fun s H C cl fp => (hg s H C cl fp).pg) (fun s H C cl fp => (ht s H C cl fp).pts) (fun s H C cl fp => (he s H C cl fp).pe) hs) fun σ H Q q => up_lc (tg := tg) (iter := iter) hv hr q⟩
theorem rs_setLc (z : Bool) {i : Nat} {y : Str} {py : Pos} {tg iter elt : Expr} {ifs : List Expr} {scope : Scope} {own : List (Str × Nat)} {spos : Pos} {di : DI} {dg : DG} {de : DE} {vs : List Nat} (hc : X.calm = true) (hN : X.N.Nodup) (hy : X.N[i]? = some y) (hyl : X.env.scope.names.lookup y = some .local)
    (hsw : swapsWith (.ListComp elt [⟨tg, iter, ifs, 0⟩] scope pos) (some (.Name y py)) spos.line X.env = pure true) (hi : RI X W tg iter di) (ok : BlkOk X.N X.env.scope scope own) (hv : ∀ v ∈ vs, v ∈ own.map (·.2))
    (hg : ∀ (s : Shared) (H : Hp) (C : Addr) (cl : List (Str × Addr)) (fp : List Addr), RG (X.blk s H scope (compEnvC scope cl C X.env) fp) tg vs dg)
    (ht : ∀ (s : Shared) (H : Hp) (C : Addr) (cl : List (Str × Addr)) (fp : List Addr), RTs (X.blk s H scope (compEnvC scope cl C X.env) fp) (fun _ _ _ _ => False) ifs dt)
    (he : ∀ (s : Shared) (H : Hp) (C : Addr) (cl : List (Str × Addr)) (fp : List Addr), RE (X.blk s H scope (compEnvC scope cl C X.env) fp) (fun _ _ _ _ => False) elt de) (hs : ∀ x, foldedSetIterable iter X.env x = pure x := by intro _; rfl) :
    RS X W (.Assign [.Name y py] (.ListComp elt [⟨tg, iter, ifs, 0⟩] scope pos) spos) (sAsg (dLc z di dg dt de (own.map (·.2))) (dName i)) := by
  obtain ⟨wi, hw, hr⟩ := hi.pi
  refine ⟨PS.imp (ps_setLc (g := upG X.K vs dg) (tt := upT X.K (fun _ _ _ _ => False) dt) (te := upE X.K (fun _ _ _ _ => False) de) hc hN hy hyl hsw hw ok (fun s H C cl fp => (hg s H C cl fp).pg) (fun s H C cl fp => (ht s H C cl fp).pts) (fun s H C cl fp => (he s H C cl fp).pe) hs) fun D σ H ⟨B, ρ, μ, DD, g, s, q, k⟩ => ?_⟩
  exact up_lc (tg := tg) (iter := iter) hv hr ⟨B, ρ, μ, _, _, g, s, q, ⟨fun v d H1 B1 μ1 e1 g1 r1 q1 => k.nx _ _ H1 B1 μ1 e1 g1 ((s.mono e1).set i r1) q1⟩, k.xe σ⟩
end
end DL

/-! The data layer, 6: isinstance, repr, repetition, list(range(..)). -/
namespace DL
open PySem PySem.Spec PyProof.Rows L2
section
variable {X : Cx} {W : WX} {e a b c : Expr} {es : List Expr} {da db dc : DE} {dt du : DT} {dr dk : DA} {pos : Pos}
/-! ### isinstance of built-in classes -/
def tyD (μ : Mu) : D → Option String
  | .non => some "NoneType"
  | .bl _ => some "bool"
  | .int _ => some "int"
  | .str _ => some "str"
  | .lst _ => some "list"
  | .tup _ => some "tuple"
  | .ref a => match μ a with
    | some (.lst _) => some "list"
    | some (.dct _) => some "dict"
    | _ => none
  | _ => none
theorem tyD_X {K : PySem.W.Frag} {B H : Hp} {μ : Mu} {v : V} {d : D} {t : String} (g : Good K B H μ) (r : Rp K B v d) (h : tyD μ d = some t) : TyX K H v (.type t) := by
  cases r with
  | non => cases h; exact .base .non
  | bl b => cases h; exact .base (.bl b)
  | int i => cases h; exact .base (.int i)
  | str x => cases h; exact .base (.str x)
  | lst h1 _ =>
    cases h
    rcases ext_rd g.ex h1 with h1 | ⟨o, h1⟩
    · exact .base (.lst h1)
    · exact .base (.frz h1)
  | tup h1 _ =>
    cases h
    rcases ext_t g.ex h1 with (h1 | ⟨o, h1⟩) | ⟨o, its, n, h1, h2, _⟩
    · exact .base (.tup h1)
    · exact .fTuple h1
    · exact .kTuple h1 h2
  | arg _ _ => cases h
  | ins _ _ _ => cases h
  | cls _ => cases h
  | fn _ _ => cases h
  | exc _ _ => cases h
  | excD _ _ _ _ => cases h
  | ref a =>
    have h : (match μ a with | some (.lst _) => some "list" | some (.dct _) => some "dict" | _ => none) = some t := h
    split at h
    · rename_i e
      cases h
      obtain ⟨_, xs, h1, _⟩ := g.mo a _ e
      exact .base (.lst h1)
    · rename_i e
      cases h
      obtain ⟨_, xs, h1, _⟩ := g.mo a _ e
      exact .base (.dK h1)
    · cases h
  | ty _ => cases h
def cdIsi : CD := fun ds μ Q => match ds with
  | [d, .ty T] => ∃ t b, tyD μ d = some t ∧ kitB t T = some b ∧ Q (.bl b) μ
  | _ => False
theorem ca_isi {K : PySem.W.Frag} : CaD K (rIsi K) cdIsi := by
  intro B H μ xs ds QD Q g r q k
  unfold cdIsi at q
  split at q
  · obtain ⟨v, w, rfl, r1, r2⟩ := r.two_inv
    obtain ⟨t, b, h1, h2, q⟩ := q
    cases r2
    exact ⟨_, _, _, _, b, rfl, .ty _, tyD_X g r1 h1, kit_ty h2, k.ok _ _ H B μ Ext.rfl' g (.bl b) q⟩
  · exact q.elim
/-! ### repr of data -/
/-- repr of data, where no other repr runs around -/
def rRepr (K : PySem.W.Frag) : List V → Hp → VK → Prop := fun xs H Q => ∃ x d, xs = [x] ∧ Dp K H x d ∧ (∃ a, x = .ref a) ∧ d.showable = true ∧ d.hasDict = false ∧ d.depth ≤ 64 ∧ d.shown.length ≤ sizeLine ∧ Q (.str d.shown) H
theorem call_repr (hg : X.A.guards = some []) (hu : X.A.units + 100 < cLine) : CallR X (.builtin "repr") (rRepr X.K) := by
  intro pins s σ H xs us Q I r h
  obtain ⟨x, d, rfl, hd, ⟨a, rfl⟩, h1, h2, h3, h4, q⟩ := h
  obtain ⟨u, rfl, ru⟩ := vals1 r
  obtain ⟨as, rd⟩ := Dp.reads I d _ _ hd ru
  cases ru
  refine repr_of_reads' (h₀ := s.heap) rd h1 (fun z => by rw [h2] at z; cases z) hg (by omega) (fun _ _ h => h) (fun h' u tk hk => ?_) h4
  exact ⟨.str d.shown, H, I.kept (t' := tk) hk, ⟨_, rfl⟩, q⟩
def cdRepr : CD := fun ds μ Q => match ds with
  | [d] => ∃ p, pyM μ d = some p ∧ (∀ a, (∃ x, d = .str x) ∨ (∃ i, d = .int i) ∨ d = .non ∨ (∃ b, d = .bl b) → a = false) ∧ p.showable = true ∧ p.hasDict = false ∧ p.depth ≤ 64 ∧ p.shown.length ≤ sizeLine ∧ Q (.str p.shown) μ
  | _ => False
theorem dp_ref {K : PySem.W.Frag} {B : Hp} {μ : Mu} {v : V} {d : D} {p : PyData} (r : Rp K B v d) (h : pyM μ d = some p) (n : ∀ a, (∃ x, d = .str x) ∨ (∃ i, d = .int i) ∨ d = .non ∨ (∃ b, d = .bl b) → a = false) : ∃ a, v = .ref a := by
  have n := n true
  cases r with
  | non => exact absurd (n (.inr (.inr (.inl rfl)))) (by decide)
  | bl b => exact absurd (n (.inr (.inr (.inr ⟨b, rfl⟩)))) (by decide)
  | int i => exact absurd (n (.inr (.inl ⟨i, rfl⟩))) (by decide)
  | str x => exact absurd (n (.inl ⟨x, rfl⟩)) (by decide)
  | lst _ _ => exact ⟨_, rfl⟩
  | tup _ _ => exact ⟨_, rfl⟩
  | arg _ _ => exact ⟨_, rfl⟩
  | ins _ _ _ => exact ⟨_, rfl⟩
  | cls _ => exact ⟨_, rfl⟩
  | fn _ _ => exact ⟨_, rfl⟩
  | exc _ _ => exact ⟨_, rfl⟩
  | excD _ _ _ _ => exact ⟨_, rfl⟩
  | ref a => exact ⟨_, rfl⟩
  | ty n => cases h
theorem ca_repr {K : PySem.W.Frag} : CaD K (rRepr K) cdRepr := by
  intro B H μ xs ds QD Q g r q k
  unfold cdRepr at q
  split at q
  · obtain ⟨v, rfl, r1⟩ := r.one_inv
    obtain ⟨p, h1, h2, h3, h4, h5, h6, q⟩ := q
    exact ⟨_, p, rfl, pyM_dp g r1 h1, dp_ref r1 h1 h2, h3, h4, h5, h6, k.ok _ _ H B μ Ext.rfl' g (.str _) q⟩
  · exact q.elim
/-! ### d * n -/
/-- numbers; a list that nobody else holds: [e] * n, the new one to be changed (z) or not -/
theorem op_repL : OpR X (binaryOp .Mult) rRep := op_rep
def CMulA (i j : Int) : Prop := CMul i j ∨ CMulW i j
theorem op_mulA : OpR X (binaryOp .Mult) (rI CMulA fun i j => .int (i * j)) := opI fun _ _ _ _ _ _ _ hc q => mul_int q (hc.elim CMul.ok CMulW.ok)
def rMulAll : R2 := fun x y H Q => (rI CMulA fun i j => .int (i * j)) x y H Q ∨ rRep x y H Q
theorem op_mulAll : OpR X (binaryOp .Mult) rMulAll := (op_mulA).or op_rep
def rdMul (z : Bool) : D2 := fun d e μ Q => match d, e with
  | .int i, .int j => CMulA i j ∧ Q (.int (i * j)) μ
  | .ref a, .int k => ∃ ds, μ a = some (.lst ds) ∧ -(2 ^ 63) ≤ k ∧ k < 2 ^ 63 ∧ ds.length * k.toNat ≤ sizeLine ∧ if z = true then ∀ p, μ p = none → Q (.ref p) (mset μ p (.lst (List.replicate k.toNat ds).flatten)) else Q (.lst (List.replicate k.toNat ds).flatten) μ
  | _, _ => False
theorem od_mul {K : PySem.W.Frag} {z : Bool} : OpD K rMulAll (rdMul z) := by
  intro B H μ x y d e QD Q g rx ry q k
  unfold rdMul at q
  split at q
  · exact .inl ⟨_, _, rx.int_inv, ry.int_inv, q.1, k.ok _ _ H B μ Ext.rfl' g (.int _) q.2⟩
  · obtain ⟨ds, hm, h1, h2, h3, q⟩ := q
    obtain ⟨_, xs, h4, h5⟩ := g.mo _ _ hm
    refine .inr ⟨_, _, xs, rx.ref_inv, ry.int_inv, h4, h1, h2, by rw [h5.length]; exact h3, fun p hp => ?_⟩
    cases z with
    | true => exact k.ok _ _ _ _ _ Ext.rfl' (g.fresh (m := .lst _) hp ⟨_, upd_same, h5.flat _⟩) (.ref _) (q p (g.free hp))
    | false => exact k.ok _ _ _ _ μ (Ext.new (g.freeB hp)) (g.still hp) (.lst (Or.inl upd_same) ((h5.flat _).mono (Ext.new (g.freeB hp)))) q
  · exact q.elim
/-! ### list(range(..)), tuple(range(..)) -/
theorem rgV_rp {K : PySem.W.Frag} {B : Hp} (i j : Int) : RpL K B (rgV i j) (rng i (j - i).toNat) := by
  unfold rgV rng
  generalize List.range (j - i).toNat = l
  induction l with
  | nil => exact .nil
  | cons a l ih => exact .cons (.int _) ih
structure RRg (X : Cx) (W : WX) (e : Expr) (dg : Rho → Mu → (Int → Int → Mu → Prop) → XQ → Prop) : Prop where
  pr : ∃ te, PRg X e te ∧ ∀ B ρ μ σ H QI QE (R : Int → Int → Hp → Prop), Good X.K B H μ → SlR X.K B σ ρ → dg ρ μ QI QE → KtX X.K W B σ QE → (∀ i j H1 B1 μ1, Ext B B1 → Good X.K B1 H1 μ1 → QI i j μ1 → R i j H1) → te σ H R
def gRg1 (da : DE) : Rho → Mu → (Int → Int → Mu → Prop) → XQ → Prop := fun ρ μ Q E => da ρ μ (fun d μ1 => ∃ n, d = .int n ∧ Q 0 n μ1) E
def gRg2 (da db : DE) : Rho → Mu → (Int → Int → Mu → Prop) → XQ → Prop := fun ρ μ Q E => da ρ μ (fun d μ1 => db ρ μ1 (fun e μ2 => ∃ i j, d = .int i ∧ e = .int j ∧ Q i j μ2) E) E
theorem rrg_1 {p : Pos} (hg : Gl X "range") (hm : X.mg "range" = none) (ha : RE X W a da) (na : starEach [a] X.env = (false, eval a X.env) :: starEach [] X.env := by rfl) : RRg X W (.Call (.Name "range" p) [a] [] pos) (gRg1 da) := ⟨_, prg_1 hg hm ha.pe na, by
  intro B ρ μ σ H QI QE R g s q x k
  refine ⟨B, ρ, μ, _, QE, g, s, q, ⟨fun v d H1 B1 μ1 e1 g1 r1 q1 => ?_⟩, x⟩
  obtain ⟨n, rfl, q1⟩ := q1
  exact ⟨n, r1.int_inv, k 0 n H1 B1 μ1 e1 g1 q1⟩⟩
theorem rrg_2 {p : Pos} (hg : Gl X "range") (hm : X.mg "range" = none) (ha : RE X W a da) (hb : RE X W b db) (na : starEach [a, b] X.env = (false, eval a X.env) :: starEach [b] X.env := by rfl)
    (nb : starEach [b] X.env = (false, eval b X.env) :: starEach [] X.env := by rfl) (hp : (backTo pos (starEach [b] X.env)).any (·.1) = false := by rfl) : RRg X W (.Call (.Name "range" p) [a, b] [] pos) (gRg2 da db) := ⟨_, prg_2 hg hm ha.pe hb.pe na nb hp, by
  intro B ρ μ σ H QI QE R g s q x k
  refine ⟨B, ρ, μ, _, QE, g, s, q, ⟨fun v d H1 B1 μ1 e1 g1 r1 q1 => ?_⟩, x⟩
  refine ⟨B1, ρ, μ1, _, QE, g1, s.mono e1, q1, ⟨fun v2 d2 H2 B2 μ2 e2 g2 r2 q2 => ?_⟩, x.mono e1⟩
  obtain ⟨i, j, rfl, rfl, q2⟩ := q2
  exact ⟨i, j, r1.int_inv, r2.int_inv, k i j H2 B2 μ2 (e1.trans e2) g2 q2⟩⟩
def dRgL (z : Bool) (dg : Rho → Mu → (Int → Int → Mu → Prop) → XQ → Prop) : DE := fun ρ μ Q E => dg ρ μ (fun i j μ1 => RgOk i j ∧ if z = true then ∀ p, μ1 p = none → Q (.ref p) (mset μ1 p (.lst (rng i (j - i).toNat))) else Q (.lst (rng i (j - i).toNat)) μ1) E
def dRgT (dg : Rho → Mu → (Int → Int → Mu → Prop) → XQ → Prop) : DE := fun ρ μ Q E => dg ρ μ (fun i j μ1 => RgOk i j ∧ Q (.tup (rng i (j - i).toNat)) μ1) E
theorem re_listRg (z : Bool) {dg : Rho → Mu → (Int → Int → Mu → Prop) → XQ → Prop} {p : Pos} (hc : X.calm = true) (hg : Gl X "list") (hm : X.mg "list" = none) (h : RRg X W e dg) (na : starEach [e] X.env = (false, eval e X.env) :: starEach [] X.env := by rfl) : RE X W (.Call (.Name "list" p) [e] [] pos) (dRgL z dg) := by
  obtain ⟨te, h1, h2⟩ := h.pr
  refine ⟨PE.imp (pe_listRg hc hg hm h1 na) fun σ H Q ⟨B, ρ, μ, QD, QE, g, s, q, k, x⟩ => ?_⟩
  refine h2 B ρ μ σ H _ QE _ g s q x fun i j H1 B1 μ1 e1 g1 q1 => ⟨q1.1, fun p hp => ?_⟩
  have q1 := q1.2
  cases z with
  | true => exact k.ok _ _ _ _ _ e1 (g1.fresh (m := .lst _) hp ⟨_, upd_same, rgV_rp i j⟩) (.ref _) (q1 p (g1.free hp))
  | false => exact k.ok _ _ _ _ μ1 (e1.trans (Ext.new (g1.freeB hp))) (g1.still hp) (.lst (Or.inl upd_same) (rgV_rp i j)) q1
theorem re_tupRg {dg : Rho → Mu → (Int → Int → Mu → Prop) → XQ → Prop} {p : Pos} (hc : X.calm = true) (hg : Gl X "tuple") (hm : X.mg "tuple" = none) (h : RRg X W e dg) (na : starEach [e] X.env = (false, eval e X.env) :: starEach [] X.env := by rfl) : RE X W (.Call (.Name "tuple" p) [e] [] pos) (dRgT dg) := by
  obtain ⟨te, h1, h2⟩ := h.pr
  refine ⟨PE.imp (pe_tupRg hc hg hm h1 na) fun σ H Q ⟨B, ρ, μ, QD, QE, g, s, q, k, x⟩ => ?_⟩
  refine h2 B ρ μ σ H _ QE _ g s q x fun i j H1 B1 μ1 e1 g1 q1 => ⟨q1.1, fun p hp => ?_⟩
  exact k.ok _ _ _ _ μ1 (e1.trans (Ext.new (g1.freeB hp))) (g1.still hp) (.tup (Or.inl (Or.inl upd_same)) (rgV_rp i j)) q1.2
/-! ### -e -/
def dNeg (da : DE) : DE := fun ρ μ Q E => da ρ μ (fun d μ1 => ∃ i, d = .int i ∧ Q (.int (-i)) μ1) E
theorem re_neg (ha : RE X W a da) : RE X W (.UnaryOp .USub a pos) (dNeg da) :=
  ⟨PE.imp (pe_un un_neg ha.pe) fun σ H Q ⟨B, ρ, μ, QD, QE, g, s, q, k, x⟩ => ⟨B, ρ, μ, _, QE, g, s, q, ⟨fun v d H1 B1 μ1 e1 g1 r1 q1 => by
    obtain ⟨i, rfl, q1⟩ := q1
    exact ⟨i, r1.int_inv, k.ok _ _ H1 B1 μ1 e1 g1 (.int _) q1⟩⟩, x⟩⟩
end
end DL

/-! The data layer, 7: short words. -/
namespace DL
open PySem PySem.Spec PyProof.Rows L2
section
variable {X : Cx} {W : WX} {e a b c : Expr} {es : List Expr} {da db dc : DE} {dt du : DT} {dr dk : DA} {pos : Pos}
theorem rv (i : Nat) {x : Str} (hN : X.N[i]? = some x := by rfl) (hv : Vis X.env.scope x := by first | exact Or.inl rfl | exact Or.inr (Or.inl rfl) | exact Or.inr (Or.inr rfl)) (hd : (x == ("__debug__" : Str)) = false := by decide)
    (hcd : (x == ("__classdict__" : Str)) = false := by decide) : RE X W (.Name x pos) (dVar i) := re_var hN hv hd hcd
theorem rt_chain {op op' : CmpOp} {r r' : R2} {rd rd' : D2} (ho : OpR X (compareOp op) r) (ho' : OpR X (compareOp op') r') (h : OpD X.K r rd) (h' : OpD X.K r' rd') (ha : RE X W a da) (hb : RE X W b db) (hc : RE X W c dc) (hm : lastMarks [op, op'] [b, c] = false := by with_unfolding_all rfl) :
    RT X W (.Compare a [op, op'] [b, c] pos) (dTest (dChain rd rd' da db dc)) := ⟨PT.imp (pt_chain ho ho' ha.pe hb.pe hc.pe hm) fun σ H Q ⟨B, ρ, μ, QD, QE, g, s, q, k, x⟩ => by
  refine up_chain (Q := fun x H' => ∃ k, x = .bl k ∧ Q k H') h h' ⟨B, ρ, μ, _, QE, g, s, q, ⟨fun v d H1 B1 μ1 e1 g1 r1 q1 => ?_⟩, x⟩
  obtain ⟨b, rfl, q1⟩ := q1
  exact ⟨b, r1.bl_inv, k b H1 B1 μ1 e1 g1 q1⟩⟩
theorem rt_isN {j pos'} (ha : RE X W a da) : RT X W (.Compare a [.Is] [.Constant .none j pos'] pos) (dTest (dIsN false da)) :=
  ⟨PT.imp (pt_cmp (pc_isN ha.pe) rfl) fun σ H Q ⟨B, ρ, μ, QD, QE, g, s, q, k, x⟩ => ⟨B, ρ, μ, _, QE, g, s, q, ⟨fun v d H1 B1 μ1 e1 g1 r1 q1 => by
    obtain ⟨b, e, q1⟩ := q1
    rw [Bool.xor_false] at e
    cases e
    rw [r1.isN]
    exact ⟨_, rfl, k _ H1 B1 μ1 e1 g1 q1⟩⟩, x⟩⟩
theorem rt_notN {j pos'} (ha : RE X W a da) : RT X W (.Compare a [.IsNot] [.Constant .none j pos'] pos) (dTest (dIsN true da)) :=
  ⟨PT.imp (pt_cmp (pc_notN ha.pe) rfl) fun σ H Q ⟨B, ρ, μ, QD, QE, g, s, q, k, x⟩ => ⟨B, ρ, μ, _, QE, g, s, q, ⟨fun v d H1 B1 μ1 e1 g1 r1 q1 => by
    obtain ⟨b, e, q1⟩ := q1
    rw [Bool.xor_true] at e
    cases e
    rw [r1.isN]
    exact ⟨_, rfl, k _ H1 B1 μ1 e1 g1 q1⟩⟩, x⟩⟩
/-- a, b = x, y -/
theorem rs_par {i j : Nat} {x y : Str} {px py pt : Pos} {kt k2 pt2} (hc : X.calm = true) (hN : X.N.Nodup) (hi : X.N[i]? = some x) (hj : X.N[j]? = some y) (hij : i ≠ j)
    (hx : X.env.scope.names.lookup x = some .local) (hy : X.env.scope.names.lookup y = some .local) (ha : RA X W [a, b] dr)
    (hw : swappedStores [.Tuple [.Name x px, .Name y py] kt pt] (.Tuple [a, b] k2 pt2) X.env = pure (some [x, y]) := by rfl)
    (hs : swapsWithSole [.Tuple [.Name x px, .Name y py] kt pt] (.Tuple [a, b] k2 pt2) pos.line X.env = pure false := by rfl) : RS X W (.Assign [.Tuple [.Name x px, .Name y py] kt pt] (.Tuple [a, b] k2 pt2) pos) (sPar i j dr) :=
  ⟨PS.imp (ps_par hc hN hi hj hij hx hy ha.pa hw hs) fun _ _ _ q => up_par q⟩
end
theorem Room.u100 {k : Nat} {A : Around} (r : Room k A) : A.units + 100 < cLine := by have := r.un; omega
theorem bx_len : bootBuiltins "len" = some (.builtin "len") := PyProof.Rows.Boot.«len»
theorem bx_abs : bootBuiltins "abs" = some (.builtin "abs") := PyProof.Rows.Boot.«abs»
theorem bx_min : bootBuiltins "min" = some (.builtin "min") := PyProof.Rows.Boot.«min»
theorem bx_max : bootBuiltins "max" = some (.builtin "max") := PyProof.Rows.Boot.«max»
theorem bx_all : bootBuiltins "all" = some (.builtin "all") := PyProof.Rows.Boot.«all»
theorem bx_any : bootBuiltins "any" = some (.builtin "any") := PyProof.Rows.Boot.«any»
theorem bx_isinstance : bootBuiltins "isinstance" = some (.builtin "isinstance") := PyProof.Rows.Boot.«isinstance»
theorem bx_repr : bootBuiltins "repr" = some (.builtin "repr") := PyProof.Rows.Boot.«repr»
theorem bx_sorted : bootBuiltins "sorted" = some (.builtin "sorted") := PyProof.Rows.Boot.«sorted»
theorem bx_sum : bootBuiltins "sum" = some (.builtin "sum") := PyProof.Rows.Boot.«sum»
theorem bx_ord : bootBuiltins "ord" = some (.builtin "ord") := PyProof.Rows.Boot.«ord»
theorem bx_chr : bootBuiltins "chr" = some (.builtin "chr") := PyProof.Rows.Boot.«chr»
theorem bx_int : bootBuiltins "int" = some (.type "int") := PyProof.Rows.Boot.«int»
theorem bx_bool : bootBuiltins "bool" = some (.type "bool") := PyProof.Rows.Boot.«bool»
theorem bx_str : bootBuiltins "str" = some (.type "str") := PyProof.Rows.Boot.«str»
theorem bx_list : bootBuiltins "list" = some (.type "list") := PyProof.Rows.Boot.«list»
theorem bx_tuple : bootBuiltins "tuple" = some (.type "tuple") := PyProof.Rows.Boot.«tuple»
theorem bx_dict : bootBuiltins "dict" = some (.type "dict") := PyProof.Rows.Boot.«dict»
theorem bx_range : bootBuiltins "range" = some (.type "range") := PyProof.Rows.Boot.«range»
theorem bx_enumerate : bootBuiltins "enumerate" = some (.type "enumerate") := PyProof.Rows.Boot.«enumerate»
theorem bx_zip : bootBuiltins "zip" = some (.type "zip") := PyProof.Rows.Boot.«zip»
section
variable {X : Cx} {W : WX} {pos : Pos}
theorem re_globI {x : Str} {i : Int} (hg : Gl X x) (hm : ∃ t, X.mg x = some (.int i t)) (hd : (x == ("__debug__" : Str)) = false := by decide) : RE X W (.Name x pos) (dC (.int i)) := by
  obtain ⟨t, hm⟩ := hm
  exact re_glob (v := .int i) hg hm ⟨t, rfl⟩ (fun _ => .int i) hd
theorem re_globS {x : Str} {i : Str} (hg : Gl X x) (hm : ∃ t, X.mg x = some (.str i t)) (hd : (x == ("__debug__" : Str)) = false := by decide) : RE X W (.Name x pos) (dC (.str i)) := by
  obtain ⟨t, hm⟩ := hm
  exact re_glob (v := .str i) hg hm ⟨t, rfl⟩ (fun _ => .str i) hd
/-- raise X('..'), X an own class without __init__ of its own, below ValueError -/
structure ExcC (K : PySem.W.Frag) (mg : Str → Option Value) (x : Str) : Prop where
  ex : ∃ C, mg x = some (.ref C) ∧ PySem.W.nsIn K mainGlobals x = some (some (.ref C)) ∧ PySem.W.excIn K C [.type "ValueError", .type "Exception", .type "BaseException", .type "object"] "ValueError.__new__" = true ∧ PySem.W.keepIn K (.ref C) = true ∧
    PySem.W.subIn K (.ref C) (.type "BaseException") = some true ∧ PySem.W.typeIn K (.ref C) = some (.type "type")
def sRaise (x : Str) : DS := fun D _ μ => D.xe ⟨x, []⟩ μ
theorem rs_raise {x m : Str} {j : Nat} {p p2 pos2 : Pos} (G : ExcC X.K X.mg x) (hc : X.calm = true) (tk : Takes X W) (hg : Gl X x := by rfl) (hdb : (x == ("__debug__" : Str)) = false := by decide) : RS X W (.Raise (some (.Call (.Name x p) [.Constant (.str m) j p2] [] pos2)) none pos) (sRaise x) := by
  obtain ⟨C, gC, nC, xC, kC, bC, tC⟩ := G.ex
  refine ⟨PS.imp (ps_raise hc tk (pmk_own PySem.F.excBase_ValueError xC gC kC (raises_own bC tC) hg hdb)) fun D σ H ⟨B, ρ, μ, DD, g, s, q, k⟩ => ?_⟩
  exact (k.xe σ).ex _ none ⟨x, []⟩ H B μ Ext.rfl' g ⟨nC, .inl ⟨rfl, rfl⟩⟩ q
end
/-! ### a def of the text, ready to be called -/
structure Def (P : Program) (w : World) (K : PySem.W.Frag) (mg : Str → Option Value) (base : Heap) (k : Nat) (x : Str) (st : Stmt) (ps : List Str) (sd : SpD) : Prop where
  ex : ∃ f fd, mg x = some (.ref f) ∧ Fun K x x st f fd ∧ L2.Binds K fd ps [] ∧ FnOk P w K mg base (L2.CX P w) k f fd ps (upSp K sd)
theorem _root_.L2.Fun.kw {K : PySem.W.Frag} {x qual : Str} {st : Stmt} {f : Addr} {fd : FuncData} {ps ks : List Str} {π : List Nat} (F : Fun K x qual st f fd)
    (h : ∀ (kV doc pm : Value) (an : Option Addr) (cdv ct : Value) (ws us : List Value), ws.length = ks.length → π.mapM (fun i => ws[i]?) = some us → bindArgs (PySem.W.fnOf x qual (defArgs st) (defBody st) (defScope st) .none kV doc pm an cdv ct) ⟨[], ks.zip ws⟩ = pure (ps.zip us)) : KwBinds K fd ps ks π := by
  obtain ⟨oc, od, kV, doc, pm, an, cdv, ct, osl, rfl, lk, hcd⟩ := F.ex
  exact fun s ws us _ hl e => .of_eq (h kV doc pm an cdv ct ws us hl e)
section
variable {P : Program} {w : World} {K : PySem.W.Frag} {mg : Str → Option Value} {base : Heap}
/-- from its body's derivation (over data: db) and the reading of db -/
theorem def_ok {x : Str} {st : Stmt} {f : Addr} {fd : FuncData} {N ps : List Str} {k : Nat} {sd : SpD} {db : DS} (hm : mg x = some (.ref f)) (F : Fun K x x st f fd) (S : FnScope N ps (defScope st))
    (bi : ∀ (kV doc pm : Value) (an : Option Addr) (cdv ct : Value) (us : List Value), us.length = ps.length → bindArgs (PySem.W.fnOf x x (defArgs st) (defBody st) (defScope st) .none kV doc pm an cdv ct) ⟨us, []⟩ = pure (ps.zip us))
    (len : ∀ ds μ Q E, sd ds μ Q E → ds.length = ps.length)
    (hbody : ∀ (cdv : Value) (A : Around) (outer : List Env) (s : Shared) (H : Hp) (E : XK), Room k (A.deeper (envOfC x (defScope st) s.heap.objs.size f cdv)) →
      RSs (cxOf (L2.CX P w) P w K mg base N x (defScope st) f cdv A outer s H E) (fun cls d _ H => E cls d H) (defBody st) db)
    (pure : ∀ ds μ Q QE, sd ds μ Q QE → db { nx := fun _ μ' => fin Q .non μ', rt := fin Q, xe := finX QE } (startD N ds) μ) : Def P w K mg base (k + 1) x st ps sd :=
  ⟨f, fd, hm, F, F.binds bi, fn_ok F S len hbody pure⟩
end
section
variable {X : Cx} {W : WX} {e : Expr} {es : List Expr} {dr dk : DA} {pos : Pos}
theorem rcall {k : Nat} {st : Stmt} {ps : List Str} {sd : SpD} {x : Str} {p : Pos} (F : Def X.prog X.w X.K X.mg X.base k x st ps sd) (hr : Room k X.A) (tk : Takes X W) (ha : RA X W (e :: es) dr) (hg : Gl X x := by rfl) (hdb : (x == ("__debug__" : Str)) = false := by decide) (he : starEach (e :: es) X.env = (false, eval e X.env) :: starEach es X.env := by rfl) (hpl : (backTo pos (starEach es X.env)).any (·.1) = false := by rfl) :
    RE X W (.Call (.Name x p) (e :: es) [] pos) (dCall sd dr) := by
  obtain ⟨f, fd, hm, F, hb, G⟩ := F.ex
  exact re_call G hr hg hm F.kp hb tk ha hdb he hpl
theorem rcall0 {k : Nat} {st : Stmt} {ps : List Str} {sd : SpD} {x : Str} {p : Pos} (F : Def X.prog X.w X.K X.mg X.base k x st ps sd) (hr : Room k X.A) (tk : Takes X W) (hg : Gl X x := by rfl) (hdb : (x == ("__debug__" : Str)) = false := by decide) :
    RE X W (.Call (.Name x p) [] [] pos) (dCall sd dNil) := by
  obtain ⟨f, fd, hm, F, hb, G⟩ := F.ex
  exact re_call0 G hr hg hm F.kp hb tk hdb
theorem rcallK {k : Nat} {st : Stmt} {ps ks : List Str} {sd : SpD} {x : Str} {p : Pos} {kws : List Keyword} {π : List Nat} (F : Def X.prog X.w X.K X.mg X.base k x st ps sd) (hr : Room k X.A) (tk : Takes X W)
    (bi : ∀ (kV doc pm : Value) (an : Option Addr) (cdv ct : Value) (ws us : List Value), ws.length = ks.length → π.mapM (fun i => ws[i]?) = some us → bindArgs (PySem.W.fnOf x x (defArgs st) (defBody st) (defScope st) .none kV doc pm an cdv ct) ⟨[], ks.zip ws⟩ = pure (ps.zip us))
    (hlen : π.length = ks.length) (hkw : RK X W kws dk) (hg : Gl X x := by rfl) (hall : (backToKw pos (keywordEach kws X.env)).all (·.1.isSome) = true := by rfl) (hks : (backToKw pos (keywordEach kws X.env)).filterMap (·.1) = ks := by rfl)
    (hdb : (x == ("__debug__" : Str)) = false := by decide)
    (hpl : ((backTo pos (starEach [] X.env)).any (·.1) || (backToKw pos (keywordEach kws X.env)).any (·.1.isNone)) = false := by rfl) : RE X W (.Call (.Name x p) [] kws pos) (dCallK sd π dk) := by
  obtain ⟨f, fd, hm, F, hb, G⟩ := F.ex
  exact re_callK G hr hg hm F.kp (F.kw bi) tk hlen hkw hall hks hdb hpl
end
end DL

/-! The data layer, 8: facts for readings over data. -/
namespace DL
open PySem PySem.Spec PyProof.Rows L2

def Le (μ μ' : Mu) : Prop := ∀ a m, μ a = some m → μ' a = some m
theorem Le.rfl' {μ : Mu} : Le μ μ := fun _ _ h => h
theorem Le.trans {a b c : Mu} (h : Le a b) (k : Le b c) : Le a c := fun x m e => k x m (h x m e)
theorem Le.new {μ : Mu} {p : Addr} {m : MO} (h : μ p = none) : Le μ (mset μ p m) := fun a n e => by
  have c : a ≠ p := fun z => by rw [z, h] at e; cases e
  rw [mset_ne c]
  exact e
theorem Le.mset {μ μ' : Mu} {p : Addr} {m : MO} (h : Le μ μ') (hp : μ p = none) : Le μ (mset μ' p m) := fun a n e => by
  have c : a ≠ p := fun z => by rw [z, hp] at e; cases e
  rw [mset_ne c]
  exact h a n e
theorem ne_addr {μ : Mu} {a b : Addr} {m : MO} (h : μ a = some m) (h' : μ b = none) : a ≠ b := fun z => by rw [z, h'] at h; cases h
theorem sl_ok {n : Nat} (h : n ≤ 1000000) : n ≤ sizeLine := by rw [sizeLine_eq]; omega
theorem sl_lt {n : Nat} (h : n ≤ 1000000) : n < sizeLine := by rw [sizeLine_eq]; omega
/-! ### a comprehension that leaves things as they are -/
theorem lc_pure {z : Bool} {dg : DG} {dt : DT} {de : DE} {ws : List Nat} {ρ : Rho} {Q : DQ} {ds : List D} {keep : Mu → Prop} {μ : Mu} (g : D → Option D) (hz : ds.length ≤ sizeLine)
    (hk : ∀ p m, μ p = none → keep (mset μ p m))
    (he : ∀ (i : Nat) (x : D) (μ' : Mu) (R1 : DQ) (R2 : Mu → Prop), ds[i]? = some x → Le μ μ' → (∀ y, g x = some y → R1 y μ') → (g x = none → R2 μ') → dg x (wipeD ρ ws) μ' fun ρ2 μ2 => dt ρ2 μ2 (fun b μ3 => if b = true then de ρ2 μ3 R1 (fun _ _ => False) else R2 μ3) (fun _ _ => False))
    (q : ∀ p, μ p = none → if z = true then Q (.ref p) (mset μ p (.lst (ds.filterMap g))) else Q (.lst (ds.filterMap g)) μ) : lcBody z dg dt de ws ρ Q ds keep μ := by
  intro p hp
  refine ⟨fun i acc μ' => μ' = μ ∧ acc = (ds.take i).filterMap g, ⟨rfl, rfl⟩, fun i acc μ' ⟨h1, h2⟩ => ?_, hz, fun i x acc μ' hx ⟨h1, h2⟩ => ?_, fun acc μ' ⟨h1, h2⟩ => ?_⟩
  · subst h1 h2
    refine ⟨hp, hk p _ hp, Nat.le_trans (List.length_filterMap_le _ _) ?_⟩
    rw [List.length_take]
    omega
  · subst h1 h2
    have tk : ds.take (i + 1) = ds.take i ++ [x] := by rw [List.take_add_one, hx]; rfl
    refine he i x _ _ _ hx (Le.new hp) (fun y hy => ⟨mset_same, mdel_mset hp, ?_⟩) (fun hn => ⟨mset_same, mdel_mset hp, ?_⟩)
    · rw [tk, List.filterMap_append]
      simp [List.filterMap_cons, hy]
    · rw [tk, List.filterMap_append]
      simp [List.filterMap_cons, hn]
  · subst h1 h2
    rw [List.take_length]
    exact q p hp
/-- .. each item kept -/
theorem lc_map {z : Bool} {dg : DG} {de : DE} {ws : List Nat} {ρ : Rho} {Q : DQ} {ds : List D} {keep : Mu → Prop} {μ : Mu} (g : D → D) (hz : ds.length ≤ sizeLine)
    (hk : ∀ p m, μ p = none → keep (mset μ p m))
    (he : ∀ (i : Nat) (x : D) (μ' : Mu) (R : DQ), ds[i]? = some x → Le μ μ' → R (g x) μ' → dg x (wipeD ρ ws) μ' fun ρ2 μ2 => de ρ2 μ2 R (fun _ _ => False))
    (q : ∀ p, μ p = none → if z = true then Q (.ref p) (mset μ p (.lst (ds.map g))) else Q (.lst (ds.map g)) μ) : lcBody z dg tTrue de ws ρ Q ds keep μ :=
  lc_pure (fun x => some (g x)) hz hk (fun i x μ' R1 R2 hx hl h1 _ => he i x μ' R1 hx hl (h1 _ rfl)) (by rw [List.filterMap_eq_map']; exact q)
/-! ### the draws -/
def DrawAt (μ : Mu) (q l : Addr) : Prop := ∃ (ls : List Int) (r : Int) (cs : List Int) (t : Int), μ q = some (.dct [(.inr "large", .ref l), (.inr "rest", .int r), (.inr "cells", .lst (cs.map .int)), (.inr "turn", .int t)]) ∧ μ l = some (.lst (ls.map .int)) ∧ q ≠ l ∧ ls.length ≤ 63 ∧ cs.length ≤ 63
def Keep (q l : Addr) (μ μ' : Mu) : Prop := ∀ a m, a ≠ q → a ≠ l → μ a = some m → μ' a = some m
theorem Keep.rfl' {q l : Addr} {μ : Mu} : Keep q l μ μ := fun _ _ _ _ h => h
theorem Keep.trans {q l : Addr} {a b c : Mu} (h : Keep q l a b) (k : Keep q l b c) : Keep q l a c := fun x m h1 h2 e => k x m h1 h2 (h x m h1 h2 e)
theorem Keep.le {q l : Addr} {a b : Mu} (h : Le a b) : Keep q l a b := fun x m _ _ e => h x m e
theorem Keep.mset {q l : Addr} {μ μ' : Mu} {p : Addr} {m : MO} (h : Keep q l μ μ') (hp : μ p = none) : Keep q l μ (mset μ' p m) := fun a n h1 h2 e => by
  have c : a ≠ p := fun z => by rw [z, hp] at e; cases e
  rw [mset_ne c]
  exact h a n h1 h2 e
theorem Keep.mdel {q l : Addr} {μ μ' : Mu} {p : Addr} (h : Keep q l μ μ') (hp : μ p = none) : Keep q l μ (mdel μ' p) := fun a n h1 h2 e => by
  have c : a ≠ p := fun z => by rw [z, hp] at e; cases e
  rw [mdel_ne c]
  exact h a n h1 h2 e
theorem Keep.draw {q l : Addr} {μ : Mu} {m : MO} : Keep q l μ (DL.mset μ q m) := fun a n h1 h2 e => by rw [mset_ne h1]; exact e
theorem Keep.large {q l : Addr} {μ : Mu} {m : MO} : Keep q l μ (DL.mset μ l m) := fun a n h1 h2 e => by rw [mset_ne h2]; exact e
theorem DrawAt.mset {q l p : Addr} {μ : Mu} {m : MO} (h : DrawAt μ q l) (h1 : p ≠ q) (h2 : p ≠ l) : DrawAt (DL.mset μ p m) q l := by
  obtain ⟨ls, r, cs, t, a, b, c⟩ := h
  exact ⟨ls, r, cs, t, by rw [mset_ne (Ne.symm h1)]; exact a, by rw [mset_ne (Ne.symm h2)]; exact b, c⟩
theorem DrawAt.mdel {q l p : Addr} {μ : Mu} (h : DrawAt μ q l) (h1 : p ≠ q) (h2 : p ≠ l) : DrawAt (DL.mdel μ p) q l := by
  obtain ⟨ls, r, cs, t, a, b, c⟩ := h
  exact ⟨ls, r, cs, t, by rw [mdel_ne (Ne.symm h1)]; exact a, by rw [mdel_ne (Ne.symm h2)]; exact b, c⟩
theorem DrawAt.q {q l : Addr} {μ : Mu} (h : DrawAt μ q l) {p : Addr} (hp : μ p = none) : p ≠ q := by
  obtain ⟨ls, r, cs, t, a, b, c⟩ := h
  exact Ne.symm (ne_addr a hp)
theorem DrawAt.l {q l : Addr} {μ : Mu} (h : DrawAt μ q l) {p : Addr} (hp : μ p = none) : p ≠ l := by
  obtain ⟨ls, r, cs, t, a, b, c⟩ := h
  exact Ne.symm (ne_addr b hp)
/-- a comprehension whose elements draw: what is made fulfils T -/
theorem lc_draw {z : Bool} {dg : DG} {dt : DT} {de : DE} {ws : List Nat} {ρ : Rho} {Q : DQ} {ds : List D} {keep : Mu → Prop} {μ : Mu} {q l : Addr} (T : Nat → List D → Prop) (hz : ds.length ≤ sizeLine) (D0 : DrawAt μ q l) (t0 : T 0 [])
    (hk : ∀ p m μ', DrawAt μ' q l → Keep q l μ μ' → keep (DL.mset μ' p m)) (hl : ∀ i acc, T i acc → acc.length ≤ i)
    (he : ∀ (i : Nat) (x : D) (acc : List D) (μ' : Mu) (R1 : DQ) (R2 : Mu → Prop), ds[i]? = some x → T i acc → DrawAt μ' q l → Keep q l μ μ' → (∀ y μ2, T (i + 1) (acc ++ [y]) → DrawAt μ2 q l → Keep q l μ' μ2 → R1 y μ2) → (∀ μ2, T (i + 1) acc → DrawAt μ2 q l → Keep q l μ' μ2 → R2 μ2) →
      dg x (wipeD ρ ws) μ' fun ρ2 μ2 => dt ρ2 μ2 (fun b μ3 => if b = true then de ρ2 μ3 R1 (fun _ _ => False) else R2 μ3) (fun _ _ => False))
    (qq : ∀ p acc μ', T ds.length acc → μ p = none → μ' p = none → DrawAt μ' q l → Keep q l μ μ' → if z = true then Q (.ref p) (DL.mset μ' p (.lst acc)) else Q (.lst acc) μ') : lcBody z dg dt de ws ρ Q ds keep μ := by
  intro p hp
  refine ⟨fun i acc μ' => T i acc ∧ μ' p = none ∧ DrawAt μ' q l ∧ Keep q l μ μ', ⟨t0, hp, D0, Keep.rfl'⟩, fun i acc μ' ⟨h1, h2, h3, h4⟩ => ⟨h2, hk p _ μ' h3 h4, hl i acc h1⟩, hz, fun i x acc μ' hx ⟨h1, h2, h3, h4⟩ => ?_, fun acc μ' ⟨h1, h2, h3, h4⟩ => qq p acc μ' h1 hp h2 h3 h4⟩
  have pq := h3.q h2
  have pl := h3.l h2
  have fin : ∀ μ2, DrawAt μ2 q l → Keep q l (DL.mset μ' p (.lst acc)) μ2 → μ2 p = some (.lst acc) ∧ DL.mdel μ2 p p = none ∧ DrawAt (DL.mdel μ2 p) q l ∧ Keep q l μ (DL.mdel μ2 p) := fun μ2 d2 k2 =>
    ⟨k2 p _ pq pl mset_same, mdel_same, d2.mdel pq pl, ((h4.mset hp).trans k2).mdel hp⟩
  refine he i x acc _ _ _ hx h1 (h3.mset pq pl) (h4.mset hp) (fun y μ2 ht d2 k2 => ?_) (fun μ2 ht d2 k2 => ?_)
  · obtain ⟨a, b, c, d⟩ := fin μ2 d2 k2
    exact ⟨a, ht, b, c, d⟩
  · obtain ⟨a, b, c, d⟩ := fin μ2 d2 k2
    exact ⟨a, ht, b, c, d⟩
end DL
namespace DL
open PySem PySem.Spec PyProof.Rows L2
theorem seqIx_nat {i : Int} {n : Nat} (h0 : 0 ≤ i) (h1 : i < n) : seqIndex? i n = some i.toNat := by
  unfold seqIndex?
  have e : ¬ i < 0 := by omega
  simp only [if_neg e, decide_eq_true h0, decide_eq_true h1, Bool.and_self, if_true]
/-! ### equal data -/
def PyOk (n : Nat) (d : D) : Prop := ∃ p, d.py = some p ∧ p.canLay0 = true ∧ p.depth ≤ n
theorem PyOk.int {n : Nat} {i : Int} : PyOk n (.int i) := ⟨.int i, by simp only [D.py], by simp only [PyData.canLay0], by simp only [PyData.depth]; omega⟩
theorem PyOk.bl {n : Nat} {i : Bool} : PyOk n (.bl i) := ⟨.bool i, by simp only [D.py], by simp only [PyData.canLay0], by simp only [PyData.depth]; omega⟩
theorem PyOk.non {n : Nat} : PyOk n .non := ⟨.none, by simp only [D.py], by simp only [PyData.canLay0], by simp only [PyData.depth]; omega⟩
theorem PyOk.mono {n m : Nat} {d : D} (h : PyOk n d) (l : n ≤ m) : PyOk m d := let ⟨p, a, b, c⟩ := h; ⟨p, a, b, Nat.le_trans c l⟩
theorem PyOk.all {n : Nat} : ∀ {xs : List D}, (∀ x ∈ xs, PyOk n x) → ∃ ps, pyL xs = some ps ∧ PyData.canLayAll0 ps = true ∧ PyData.depthAll ps ≤ n
  | [], _ => ⟨[], by simp only [pyL], by simp only [PyData.canLayAll0], by simp only [PyData.depthAll]; omega⟩
  | x :: xs, h => by
    obtain ⟨p, a, b, c⟩ := h x (List.mem_cons_self ..)
    obtain ⟨ps, a', b', c'⟩ := PyOk.all (xs := xs) fun y hy => h y (List.mem_cons_of_mem _ hy)
    exact ⟨p :: ps, by simp only [pyL, a, a'], by simp only [PyData.canLayAll0, b, b', Bool.and_self], by simp only [PyData.depthAll]; omega⟩
theorem PyOk.tup {n : Nat} {xs : List D} (h : ∀ x ∈ xs, PyOk n x) : PyOk (n + 1) (.tup xs) := by
  obtain ⟨ps, a, b, c⟩ := PyOk.all h
  exact ⟨.tuple ps, by simp only [D.py, a, Option.map_some], by simp only [PyData.canLay0, b], by simp only [PyData.depth]; omega⟩
theorem PyOk.lst {n : Nat} {xs : List D} (h : ∀ x ∈ xs, PyOk n x) : PyOk (n + 1) (.lst xs) := by
  obtain ⟨ps, a, b, c⟩ := PyOk.all h
  exact ⟨.list ps, by simp only [D.py, a, Option.map_some], by simp only [PyData.canLay0, b], by simp only [PyData.depth]; omega⟩
theorem shaped_of {p : PyData} (h1 : p.canLay0 = true) (h2 : p.depth ≤ 64) : SeqAt.shaped p = true := by
  unfold SeqAt.shaped
  rw [h1, decide_eq_true h2]
  rfl
theorem pyM_py {μ : Mu} {d : D} {p : PyData} (h : d.py = some p) : pyM μ d = some p := by
  cases d with
  | ref a => simp only [D.py] at h; cases h
  | _ => exact h
theorem pyM_list {μ : Mu} {d : D} {xs : List D} {ps : List PyData} (h : listOf μ d = some xs) (hp : pyL xs = some ps) : pyM μ d = some (.list ps) := by
  rcases listOf_inv h with rfl | ⟨a, rfl, hm⟩
  · simp only [pyM, D.py, hp, Option.map_some]
  · simp only [pyM, hm, hp, Option.map_some]
/-- == of data: b is what the library's eqv tells -/
theorem eq_ok {s : Bool} {d e : D} {μ : Mu} {Q : DQ} {b : Bool} (h1 : PyOk 64 d) (h2 : PyOk 64 e) (hb : ∀ p q, d.py = some p → e.py = some q → PyData.eqv p q = b) (q : Q (.bl (b ^^ s)) μ) : rdEq s d e μ Q := by
  obtain ⟨p, a1, a2, a3⟩ := h1
  obtain ⟨r, b1, b2, b3⟩ := h2
  exact .inl ⟨p, r, pyM_py a1, pyM_py b1, shaped_of a2 a3, shaped_of b2 b3, by rw [hb p r a1 b1]; exact q⟩
theorem eq_int {s : Bool} {i j : Int} {μ : Mu} {Q : DQ} (q : Q (.bl (decide (i = j) ^^ s)) μ) : rdEq s (.int i) (.int j) μ Q := by
  refine eq_ok .int .int (b := decide (i = j)) (fun p r h1 h2 => ?_) q
  simp only [D.py, Option.some.injEq] at h1 h2
  subst h1 h2
  simp only [PyData.eqv]
  exact (Bool.beq_eq_decide_eq i j)
theorem isEmpty_py {xs : List D} {ps : List PyData} (h : pyL xs = some ps) : PyData.eqvAll ps [] = xs.isEmpty := by
  cases xs with
  | nil => simp only [pyL, Option.some.injEq] at h; subst h; simp only [PyData.eqvAll, List.isEmpty_nil]
  | cons x xs =>
    simp only [pyL] at h
    split at h
    · cases h; simp only [PyData.eqvAll, List.isEmpty_cons]
    · cases h
/-- == [] of a list, as it stands -/
theorem eq_nil {s : Bool} {d : D} {xs : List D} {μ : Mu} {Q : DQ} (h1 : listOf μ d = some xs) (h2 : ∀ x ∈ xs, PyOk 63 x) (q : Q (.bl (xs.isEmpty ^^ s)) μ) : rdEq s d (.lst []) μ Q := by
  obtain ⟨ps, a, b, c⟩ := PyOk.all h2
  refine .inl ⟨.list ps, .list [], pyM_list h1 a, by simp only [pyM, D.py, pyL, Option.map_some], shaped_of (by simp only [PyData.canLay0, b]) (by simp only [PyData.depth]; omega), shaped_of (by simp only [PyData.canLay0, PyData.canLayAll0]) (by simp only [PyData.depth, PyData.depthAll]; omega), ?_⟩
  have e : PyData.eqv (.list ps) (.list []) = xs.isEmpty := by simp only [PyData.eqv]; exact isEmpty_py a
  rw [e]
  exact q
theorem mem_ints {ns : List Int} {x : D} (h : x ∈ ns.map D.int) : ∃ i, i ∈ ns ∧ x = .int i := by
  obtain ⟨i, hi, e⟩ := List.mem_map.mp h
  exact ⟨i, hi, e.symm⟩
theorem ints_ok {n : Nat} {ns : List Int} : ∀ x ∈ ns.map D.int, PyOk n x := fun x hx => by
  obtain ⟨i, _, rfl⟩ := mem_ints hx
  exact .int
abbrev tI (ns : List Int) : D := .tup (ns.map .int)
theorem pyL_ints : ∀ ns : List Int, pyL (ns.map D.int) = some (ns.map PyData.int)
  | [] => by simp only [List.map_nil, pyL]
  | n :: ns => by simp only [List.map_cons, pyL, D.py, pyL_ints ns]
theorem eqv_ints : ∀ a b : List Int, PyData.eqvAll (a.map PyData.int) (b.map PyData.int) = decide (a = b)
  | [], [] => by simp [PyData.eqvAll]
  | [], _ :: _ => by simp [PyData.eqvAll]
  | _ :: _, [] => by simp [PyData.eqvAll]
  | x :: a, y :: b => by
    simp only [List.map_cons, PyData.eqvAll, PyData.eqv, eqv_ints a b, List.cons.injEq]
    by_cases e : x = y
    · subst e; simp
    · simp [e]
theorem eq_tI {s : Bool} {a b : List Int} {μ : Mu} {Q : DQ} (q : Q (.bl (decide (a = b) ^^ s)) μ) : rdEq s (tI a) (tI b) μ Q := by
  refine eq_ok ((PyOk.tup (n := 0) ints_ok).mono (by decide)) ((PyOk.tup (n := 0) ints_ok).mono (by decide)) (b := decide (a = b)) (fun p r h1 h2 => ?_) q
  simp only [D.py, pyL_ints, Option.map_some, Option.some.injEq] at h1 h2
  subst h1 h2
  simp only [PyData.eqv]
  exact eqv_ints a b
end DL

/-! The draws of the laws. -/
namespace DL
open PySem PySem.Spec PyProof.Rows L2
def sd__law_begun : SpD := fun ds μ Q _ => ∃ ns : List Int, ds = [.arg (ns.map .int)] ∧ ns.length ≤ 63 ∧ ∀ q l μ', μ q = none → μ l = none → DrawAt μ' q l → Le μ μ' → Q (.ref q) μ'
def sd__law_mixed : SpD := fun ds μ Q _ => ∃ q l, ds = [.ref q] ∧ DrawAt μ q l ∧ ∀ n μ', DrawAt μ' q l → Keep q l μ μ' → Q (.int n) μ'
def sd__law_take : SpD := fun ds μ Q _ => ∃ q l n, ds = [.ref q, .int n] ∧ DrawAt μ q l ∧ 0 < n ∧ n < 2 ^ 64 ∧ ∀ i μ', 0 ≤ i → i < n → DrawAt μ' q l → Keep q l μ μ' → Q (.int i) μ'
def sd__law_pick : SpD := fun ds μ Q _ => ∃ q l d xs, ds = [.ref q, d] ∧ (d = .lst xs ∨ d = .tup xs) ∧ 0 < xs.length ∧ xs.length < 100000 ∧ DrawAt μ q l ∧ ∀ (i : Nat) x μ', (xs : List D)[i]? = some x → DrawAt μ' q l → Keep q l μ μ' → Q x μ'
def sd__law_shuffled : SpD := fun ds μ Q _ => ∃ q l d xs, ds = [.ref q, d] ∧ (d = .lst xs ∨ d = .tup xs) ∧ xs.length < 100000 ∧ (∀ x ∈ xs, PyOk 63 x) ∧ DrawAt μ q l ∧ ∀ p ys μ', ys.Perm xs → μ p = none → μ' p = some (.lst ys) → DrawAt μ' q l → Keep q l μ μ' → Q (.ref p) μ'
/-- slots: 0 script, 1 grain, 2 large -/
def db__law_begun : DS :=
  (sSeq (sAsg (dLc true (iSeqD (dVar 0)) (dName 1) (dTest (dOp (rdB0 fun i j => decide (j ≤ i)) (dCB cdAbs (dCons (dVar 1) dNil)) (dOp (rdI CPow fun i j => i ^ j.toNat) (dC (.int 10)) (dC (.int 18))))) (dOp (rdI0 fun i j => i - j) (dCB cdAbs (dCons (dVar 1) dNil)) (dOp (rdI CPow fun i j => i ^ j.toNat) (dC (.int 10)) (dC (.int 18)))) [1]) (dName 2))
    (sRet (dDict [(.inr "large", (dVar 2)), (.inr "rest", (dC (.int 0))), (.inr "cells", (dLc false (iSeqD (dVar 0)) (dName 1) tTrue (dCB cdAbs (dCons (dVar 1) dNil)) [1])), (.inr "turn", (dC (.int 0)))])))
/-- slots: 0 draw, 1 turn, 2 found, 3 great, 4 blend, 5 grain -/
def db__law_mixed : DS :=
  (sSeq (sDPutD (dVar 0) (dC (.str "turn")) (dOp rdAdd (dDGet (dVar 0) (dC (.str "turn"))) (dC (.int 1))))
    (sSeq (sPar 1 2 (dCons (dCB cdInt (dCons (dDGet (dVar 0) (dC (.str "turn"))) dNil)) (dCons (dC (.int 0)) dNil)))
    (sSeq (sFor (iSeqD (dLst (dCons (dC (.int 2147483629)) (dCons (dC (.int 2147483587)) (dCons (dC (.int 2147483579)) dNil))))) (dName 3) (sSeq (sAsg (dOp (rdI (fun _ j => 0 < j) fun i j => i % j) (dOp rdAdd (dOp (rdMul false) (dVar 1) (dC (.int 69621))) (dOp (rdI CDivW fun i j => i / j) (dVar 3) (dC (.int 7)))) (dVar 3)) (dName 4))
    (sSeq (sFor (iSeqD (dDGet (dVar 0) (dC (.str "cells")))) (dName 5) (sAsg (dOp (rdI (fun _ j => 0 < j) fun i j => i % j) (dOp rdAdd (dOp (rdMul false) (dVar 4) (dC (.int 48271))) (dCB cdInt (dCons (dVar 5) dNil))) (dVar 3)) (dName 4)))
    (sAsg (dOp rdAdd (dOp (rdMul false) (dVar 2) (dC (.int 2147483647))) (dOp (rdI (fun _ j => 0 < j) fun i j => i % j) (dOp (rdI CPow fun i j => i ^ j.toNat) (dVar 4) (dC (.int 5))) (dVar 3))) (dName 2)))))
    (sRet (dVar 2)))))
/-- slots: 0 draw, 1 amount, 2 found -/
def db__law_take : DS :=
  (sSeq (sIf (dTest (dOp (rdEq false) (dDGet (dVar 0) (dC (.str "rest"))) (dC (.int 0)))) (sDPutD (dVar 0) (dC (.str "rest")) (dIf (dTest (dOp (rdEq true) (dDGet (dVar 0) (dC (.str "large"))) (dLst dNil))) (dPopAt (dDGet (dVar 0) (dC (.str "large"))) (dC (.int 0))) (dCall sd__law_mixed (dCons (dVar 0) dNil)))) sNext)
    (sSeq (sAsg (dOp (rdI (fun _ j => 0 < j) fun i j => i % j) (dCB cdInt (dCons (dDGet (dVar 0) (dC (.str "rest"))) dNil)) (dVar 1)) (dName 2))
    (sSeq (sDPutD (dVar 0) (dC (.str "rest")) (dOp (rdI CDivW fun i j => i / j) (dCB cdInt (dCons (dDGet (dVar 0) (dC (.str "rest"))) dNil)) (dVar 1)))
    (sRet (dVar 2)))))
/-- slots: 0 draw, 1 some -/
def db__law_pick : DS :=
  (sRet (dOp rdIx (dVar 1) (dCall sd__law_take (dCons (dVar 0) (dCons (dCB cdLen (dCons (dVar 1) dNil)) dNil)))))
/-- slots: 0 draw, 1 some, 2 left, 3 found -/
def db__law_shuffled : DS :=
  (sSeq (sPar 2 3 (dCons (dCB cdListM (dCons (dVar 1) dNil)) (dCons (dLstM dNil) dNil)))
    (sSeq (sWhile (dTest (dOp (rdEq true) (dVar 2) (dLst dNil))) (sDrop (dAppend (dVar 3) (dPopAt (dVar 2) (dCall sd__law_take (dCons (dVar 0) (dCons (dCB cdLen (dCons (dVar 2) dNil)) dNil)))))))
    (sRet (dVar 3))))
theorem abs_nat (i : Int) : (if i < 0 then -i else i) = (i.natAbs : Int) := by split <;> omega
theorem big18 : CPow 10 18 := ⟨by decide, by decide, by decide⟩
theorem ints_get {ns : List Int} {i : Nat} {x : D} (h : (ns.map D.int)[i]? = some x) : ∃ n, ns[i]? = some n ∧ x = .int n := by
  rw [List.getElem?_map] at h
  cases e : ns[i]? with
  | none => rw [e] at h; cases h
  | some n => rw [e] at h; exact ⟨n, rfl, (Option.some.inj h).symm⟩
theorem fm_int (f : Int → Option Int) : ∀ ns : List Int, (ns.map D.int).filterMap (fun d => match d with | .int i => (f i).map D.int | _ => none) = (ns.filterMap f).map D.int
  | [] => rfl
  | n :: ns => by
    rw [List.map_cons, List.filterMap_cons, List.filterMap_cons]
    cases e : f n with
    | none => simp only [e, Option.map_none]; exact fm_int f ns
    | some m => simp only [e, Option.map_some, List.map_cons]; rw [fm_int f ns]
theorem m_int (f : Int → Int) : ∀ ns : List Int, (ns.map D.int).map (fun d => match d with | .int i => D.int (f i) | d => d) = (ns.map f).map D.int
  | [] => rfl
  | n :: ns => by rw [List.map_cons, List.map_cons, List.map_cons, List.map_cons, m_int f ns]
theorem pu__law_begun (ds : List D) (μ : Mu) (Q : DQ) (QE : XQ) (h : sd__law_begun ds μ Q QE) : db__law_begun { nx := fun _ μ' => fin Q .non μ', rt := fin Q, xe := finX QE } (startD ["script", "grain", "large"] ds) μ := by
  obtain ⟨ns, rfl, hn, k⟩ := h
  have hz : (ns.map D.int).length ≤ sizeLine := sl_ok (by rw [List.length_map]; omega)
  -- large
  unfold db__law_begun
  simp only [sSeq, sAsg, sRet, sRetN, sDrop, sIf, sPar, sDPutD, sNext, sBrk, sCont, sRaise, sAugI, sFor, sFreeze, dVar, dC, dOp, dTest, dAnd, dOr, dNot, dAndV, dOrV, dNotV, dIf, dChain, dTup, dLst, dLstM, dNil, dCons, dCB, dCall, dCallK, dRev, dSlice, oNone, oSome, dIsN, dNeg, dDGet, dDict, dPs, dPop, dPopAt, dAppend, dLc, dRgL, dRgT, gRg1, gRg2, iSeqD, iRng1D, iRng2D, tTrue, rdAdd, rdI, rdI0, rdB0, rdIx, rdMul, cdLen, cdAbs, cdInt, cdMin2, cdMax2, cdTup, cdList, cdListM, cdAll, cdAny, cdIsi, dName, dGTup, dGCons, dGNil, dGSub, startD, wipeD, seqOf, listOf, keepOf, List.map_cons, List.map_nil, List.length_cons, List.length_nil, List.cons_append, List.nil_append, Nat.reduceAdd, Nat.reduceSub, List.replicate_succ, List.replicate_zero, List.replicate, List.set_cons_zero, List.set_cons_succ, List.getElem?_cons_zero, List.getElem?_cons_succ, Int.reduceToNat, Int.reduceNeg, Bool.false_eq_true, if_true, if_false, decide_eq_true_eq, Option.some.injEq, exists_eq_left', exists_eq_left, true_and, and_true, D.key, D.int.injEq, D.bl.injEq, D.tup.injEq, D.ref.injEq, D.lst.injEq, D.arg.injEq]
  refine lc_pure (fun d => match d with | .int i => (if 10 ^ 18 ≤ (i.natAbs : Int) then some ((i.natAbs : Int) - 10 ^ 18) else none).map D.int | _ => none) hz (fun _ _ _ => trivial) (fun i x μ' R1 R2 hx hl h1 h2 => ?_) (fun l hl => ?_)
  · obtain ⟨n, _, rfl⟩ := ints_get hx
    simp only [sSeq, sAsg, sRet, sRetN, sDrop, sIf, sPar, sDPutD, sNext, sBrk, sCont, sRaise, sAugI, sFor, sFreeze, dVar, dC, dOp, dTest, dAnd, dOr, dNot, dAndV, dOrV, dNotV, dIf, dChain, dTup, dLst, dLstM, dNil, dCons, dCB, dCall, dCallK, dRev, dSlice, oNone, oSome, dIsN, dNeg, dDGet, dDict, dPs, dPop, dPopAt, dAppend, dLc, dRgL, dRgT, gRg1, gRg2, iSeqD, iRng1D, iRng2D, tTrue, rdAdd, rdI, rdI0, rdB0, rdIx, rdMul, cdLen, cdAbs, cdInt, cdMin2, cdMax2, cdTup, cdList, cdListM, cdAll, cdAny, cdIsi, dName, dGTup, dGCons, dGNil, dGSub, startD, wipeD, seqOf, listOf, keepOf, List.map_cons, List.map_nil, List.length_cons, List.length_nil, List.cons_append, List.nil_append, Nat.reduceAdd, Nat.reduceSub, List.replicate_succ, List.replicate_zero, List.replicate, List.set_cons_zero, List.set_cons_succ, List.getElem?_cons_zero, List.getElem?_cons_succ, Int.reduceToNat, Int.reduceNeg, Bool.false_eq_true, if_true, if_false, decide_eq_true_eq, Option.some.injEq, exists_eq_left', exists_eq_left, true_and, and_true, D.key, D.int.injEq, D.bl.injEq, D.tup.injEq, D.ref.injEq, D.lst.injEq, D.arg.injEq, abs_nat]
    refine ⟨big18, ?_⟩
    by_cases c : 10 ^ 18 ≤ (n.natAbs : Int)
    · rw [if_pos c]
      exact ⟨big18, h1 _ (by simp only [if_pos c]; rfl)⟩
    · rw [if_neg c]
      exact h2 (by simp only [if_neg c]; rfl)
  rw [fm_int]
  -- the dict
  intro q hq
  have nlq : q ≠ l := fun z => by rw [z, mset_same] at hq; cases hq
  refine lc_map (fun d => match d with | .int i => D.int (i.natAbs : Int) | d => d) hz (fun _ _ _ => trivial) (fun i x μ' R hx hl h1 => ?_) (fun _ _ => ?_)
  · obtain ⟨n, _, rfl⟩ := ints_get hx
    simp only [sSeq, sAsg, sRet, sRetN, sDrop, sIf, sPar, sDPutD, sNext, sBrk, sCont, sRaise, sAugI, sFor, sFreeze, dVar, dC, dOp, dTest, dAnd, dOr, dNot, dAndV, dOrV, dNotV, dIf, dChain, dTup, dLst, dLstM, dNil, dCons, dCB, dCall, dCallK, dRev, dSlice, oNone, oSome, dIsN, dNeg, dDGet, dDict, dPs, dPop, dPopAt, dAppend, dLc, dRgL, dRgT, gRg1, gRg2, iSeqD, iRng1D, iRng2D, tTrue, rdAdd, rdI, rdI0, rdB0, rdIx, rdMul, cdLen, cdAbs, cdInt, cdMin2, cdMax2, cdTup, cdList, cdListM, cdAll, cdAny, cdIsi, dName, dGTup, dGCons, dGNil, dGSub, startD, wipeD, seqOf, listOf, keepOf, List.map_cons, List.map_nil, List.length_cons, List.length_nil, List.cons_append, List.nil_append, Nat.reduceAdd, Nat.reduceSub, List.replicate_succ, List.replicate_zero, List.replicate, List.set_cons_zero, List.set_cons_succ, List.getElem?_cons_zero, List.getElem?_cons_succ, Int.reduceToNat, Int.reduceNeg, Bool.false_eq_true, if_true, if_false, decide_eq_true_eq, Option.some.injEq, exists_eq_left', exists_eq_left, true_and, and_true, D.key, D.int.injEq, D.bl.injEq, D.tup.injEq, D.ref.injEq, D.lst.injEq, D.arg.injEq, abs_nat]
    exact h1
  rw [m_int]
  have hq' : μ q = none := by rw [mset_ne nlq] at hq; exact hq
  refine ⟨mset_same, fin_self (k q l _ hq' hl ⟨ns.filterMap fun i => if 10 ^ 18 ≤ (i.natAbs : Int) then some ((i.natAbs : Int) - 10 ^ 18) else none, 0, _, 0, mset_same, ?_, nlq, ?_, ?_⟩ ?_)⟩
  · rw [mset_ne nlq.symm, mset_ne nlq.symm]; exact mset_same
  · exact Nat.le_trans (List.length_filterMap_le _ _) hn
  · rw [List.length_map]; exact hn
  · exact ((Le.new hl).mset hq').mset hq'
abbrev drawD (l : Addr) (r : Int) (cs : List Int) (t : Int) : MO := .dct [(.inr "large", .ref l), (.inr "rest", .int r), (.inr "cells", .lst (cs.map .int)), (.inr "turn", .int t)]
section
variable {l : Addr} {r t r' : Int} {cs : List Int}
theorem val_large : valD [((.inr "large" : Key), D.ref l), (.inr "rest", .int r), (.inr "cells", .lst (cs.map .int)), (.inr "turn", .int t)] (.inr "large") = some (.ref l) := by rfl
theorem val_rest : valD [((.inr "large" : Key), D.ref l), (.inr "rest", .int r), (.inr "cells", .lst (cs.map .int)), (.inr "turn", .int t)] (.inr "rest") = some (.int r) := by rfl
theorem val_cells : valD [((.inr "large" : Key), D.ref l), (.inr "rest", .int r), (.inr "cells", .lst (cs.map .int)), (.inr "turn", .int t)] (.inr "cells") = some (.lst (cs.map .int)) := by rfl
theorem val_turn : valD [((.inr "large" : Key), D.ref l), (.inr "rest", .int r), (.inr "cells", .lst (cs.map .int)), (.inr "turn", .int t)] (.inr "turn") = some (.int t) := by rfl
theorem put_turn : putD [((.inr "large" : Key), D.ref l), (.inr "rest", .int r), (.inr "cells", .lst (cs.map .int)), (.inr "turn", .int t)] (.inr "turn") (.int r') = [(.inr "large", .ref l), (.inr "rest", .int r), (.inr "cells", .lst (cs.map .int)), (.inr "turn", .int r')] := by rfl
theorem put_rest : putD [((.inr "large" : Key), D.ref l), (.inr "rest", .int r), (.inr "cells", .lst (cs.map .int)), (.inr "turn", .int t)] (.inr "rest") (.int r') = [(.inr "large", .ref l), (.inr "rest", .int r'), (.inr "cells", .lst (cs.map .int)), (.inr "turn", .int t)] := by rfl
end
theorem cm_small {i j : Int} (h : -(2 ^ 64) < j ∧ j < 2 ^ 64) : CMulA i j := .inl (.inr h)
theorem cdiv_small {i j : Int} (h : 0 < j) (h2 : j < 2 ^ 64) : CDivW i j := wide_div (b := 64) h (by omega) (by decide) (by decide)
theorem lt4 : (4 : Nat) ≤ sizeLine := sl_ok (by decide)
theorem pu__law_mixed (ds : List D) (μ : Mu) (Q : DQ) (QE : XQ) (h : sd__law_mixed ds μ Q QE) : db__law_mixed { nx := fun _ μ' => fin Q .non μ', rt := fin Q, xe := finX QE } (startD ["draw", "turn", "found", "great", "blend", "grain"] ds) μ := by
  obtain ⟨q, l, rfl, ⟨ls, r, cs, t, hq, hl, nql, h1, h2⟩, k⟩ := h
  unfold db__law_mixed
  simp only [sSeq, sAsg, sRet, sRetN, sDrop, sIf, sPar, sDPutD, sNext, sBrk, sCont, sRaise, sAugI, sFor, sFreeze, dVar, dC, dOp, dTest, dAnd, dOr, dNot, dAndV, dOrV, dNotV, dIf, dChain, dTup, dLst, dLstM, dNil, dCons, dCB, dCall, dCallK, dRev, dSlice, oNone, oSome, dIsN, dNeg, dDGet, dDict, dPs, dPop, dPopAt, dAppend, dLc, dRgL, dRgT, gRg1, gRg2, iSeqD, iRng1D, iRng2D, tTrue, rdAdd, rdI, rdI0, rdB0, rdIx, rdMul, cdLen, cdAbs, cdInt, cdMin2, cdMax2, cdTup, cdList, cdListM, cdAll, cdAny, cdIsi, dName, dGTup, dGCons, dGNil, dGSub, startD, wipeD, seqOf, listOf, keepOf, List.map_cons, List.map_nil, List.length_cons, List.length_nil, List.cons_append, List.nil_append, Nat.reduceAdd, Nat.reduceSub, List.replicate_succ, List.replicate_zero, List.replicate, List.set_cons_zero, List.set_cons_succ, List.getElem?_cons_zero, List.getElem?_cons_succ, Int.reduceToNat, Int.reduceNeg, Bool.false_eq_true, if_true, if_false, decide_eq_true_eq, Option.some.injEq, exists_eq_left', exists_eq_left, true_and, and_true, D.key, D.int.injEq, D.bl.injEq, D.tup.injEq, D.ref.injEq, D.lst.injEq, D.arg.injEq]
  refine ⟨_, _, _, _, rfl, hq, rfl, val_turn, _, _, _, rfl, hq, rfl, sl_lt (by simp), ?_⟩
  rw [put_turn]
  refine ⟨_, _, _, _, rfl, mset_same, rfl, val_turn, ?_⟩
  dsimp only
  refine ⟨sl_ok (by decide), fun _ ρ' μ' => ∃ (f : Int) (g b gr : Option D), ρ' = [some (.ref q), some (.int (t + 1)), some (.int f), g, b, gr] ∧ μ' = mset μ q (drawD l r cs (t + 1)), ⟨0, none, none, none, rfl, rfl⟩, fun _ _ _ _ _ => trivial, fun i d ρ' μ' hd ⟨f, g, b, gr, e1, e2⟩ => ?_, fun ρ' μ' ⟨f, g, b, gr, e1, e2⟩ => ?_⟩
  · obtain ⟨G, rfl, g0, g1⟩ : ∃ G : Int, d = .int G ∧ 0 < G ∧ G < 2147483648 := by
      have hm := List.mem_of_getElem? hd
      simp only [List.mem_cons, List.not_mem_nil, or_false] at hm
      rcases hm with rfl | rfl | rfl
      · exact ⟨_, rfl, by decide, by decide⟩
      · exact ⟨_, rfl, by decide, by decide⟩
      · exact ⟨_, rfl, by decide, by decide⟩
    subst e1 e2
    simp only [sSeq, sAsg, sRet, sRetN, sDrop, sIf, sPar, sDPutD, sNext, sBrk, sCont, sRaise, sAugI, sFor, sFreeze, dVar, dC, dOp, dTest, dAnd, dOr, dNot, dAndV, dOrV, dNotV, dIf, dChain, dTup, dLst, dLstM, dNil, dCons, dCB, dCall, dCallK, dRev, dSlice, oNone, oSome, dIsN, dNeg, dDGet, dDict, dPs, dPop, dPopAt, dAppend, dLc, dRgL, dRgT, gRg1, gRg2, iSeqD, iRng1D, iRng2D, tTrue, rdAdd, rdI, rdI0, rdB0, rdIx, rdMul, cdLen, cdAbs, cdInt, cdMin2, cdMax2, cdTup, cdList, cdListM, cdAll, cdAny, cdIsi, dName, dGTup, dGCons, dGNil, dGSub, startD, wipeD, seqOf, listOf, keepOf, List.map_cons, List.map_nil, List.length_cons, List.length_nil, List.cons_append, List.nil_append, Nat.reduceAdd, Nat.reduceSub, List.replicate_succ, List.replicate_zero, List.replicate, List.set_cons_zero, List.set_cons_succ, List.getElem?_cons_zero, List.getElem?_cons_succ, Int.reduceToNat, Int.reduceNeg, Bool.false_eq_true, if_true, if_false, decide_eq_true_eq, Option.some.injEq, exists_eq_left', exists_eq_left, true_and, and_true, D.key, D.int.injEq, D.bl.injEq, D.tup.injEq, D.ref.injEq, D.lst.injEq, D.arg.injEq]
    refine ⟨cm_small (by omega), cdiv_small (by decide) (by decide), g0, _, _, _, _, rfl, mset_same, rfl, val_cells, _, rfl, ?_⟩
    have b0 := Int.emod_nonneg ((t + 1) * 69621 + G / 7) (by omega : G ≠ 0)
    have b1 := Int.emod_lt_of_pos ((t + 1) * 69621 + G / 7) g0
    refine ⟨fun _ ρ' μ' => ∃ (b : Int) (gr : Option D), 0 ≤ b ∧ b < G ∧ ρ' = [some (.ref q), some (.int (t + 1)), some (.int f), some (.int G), some (.int b), gr] ∧ μ' = mset μ q (drawD l r cs (t + 1)), ⟨_, _, b0, b1, rfl, rfl⟩, fun _ _ _ _ _ => trivial, fun i d ρ' μ' hd ⟨b, gr, c0, c1, e1, e2⟩ => ?_, fun ρ' μ' ⟨b, gr, c0, c1, e1, e2⟩ => ?_⟩
    · obtain ⟨n, _, rfl⟩ := ints_get hd
      subst e1 e2
      simp only [sSeq, sAsg, sRet, sRetN, sDrop, sIf, sPar, sDPutD, sNext, sBrk, sCont, sRaise, sAugI, sFor, sFreeze, dVar, dC, dOp, dTest, dAnd, dOr, dNot, dAndV, dOrV, dNotV, dIf, dChain, dTup, dLst, dLstM, dNil, dCons, dCB, dCall, dCallK, dRev, dSlice, oNone, oSome, dIsN, dNeg, dDGet, dDict, dPs, dPop, dPopAt, dAppend, dLc, dRgL, dRgT, gRg1, gRg2, iSeqD, iRng1D, iRng2D, tTrue, rdAdd, rdI, rdI0, rdB0, rdIx, rdMul, cdLen, cdAbs, cdInt, cdMin2, cdMax2, cdTup, cdList, cdListM, cdAll, cdAny, cdIsi, dName, dGTup, dGCons, dGNil, dGSub, startD, wipeD, seqOf, listOf, keepOf, List.map_cons, List.map_nil, List.length_cons, List.length_nil, List.cons_append, List.nil_append, Nat.reduceAdd, Nat.reduceSub, List.replicate_succ, List.replicate_zero, List.replicate, List.set_cons_zero, List.set_cons_succ, List.getElem?_cons_zero, List.getElem?_cons_succ, Int.reduceToNat, Int.reduceNeg, Bool.false_eq_true, if_true, if_false, decide_eq_true_eq, Option.some.injEq, exists_eq_left', exists_eq_left, true_and, and_true, D.key, D.int.injEq, D.bl.injEq, D.tup.injEq, D.ref.injEq, D.lst.injEq, D.arg.injEq]
      refine ⟨cm_small (by omega), g0, _, _, Int.emod_nonneg _ (by omega), Int.emod_lt_of_pos _ g0, rfl⟩
    · subst e1 e2
      simp only [sSeq, sAsg, sRet, sRetN, sDrop, sIf, sPar, sDPutD, sNext, sBrk, sCont, sRaise, sAugI, sFor, sFreeze, dVar, dC, dOp, dTest, dAnd, dOr, dNot, dAndV, dOrV, dNotV, dIf, dChain, dTup, dLst, dLstM, dNil, dCons, dCB, dCall, dCallK, dRev, dSlice, oNone, oSome, dIsN, dNeg, dDGet, dDict, dPs, dPop, dPopAt, dAppend, dLc, dRgL, dRgT, gRg1, gRg2, iSeqD, iRng1D, iRng2D, tTrue, rdAdd, rdI, rdI0, rdB0, rdIx, rdMul, cdLen, cdAbs, cdInt, cdMin2, cdMax2, cdTup, cdList, cdListM, cdAll, cdAny, cdIsi, dName, dGTup, dGCons, dGNil, dGSub, startD, wipeD, seqOf, listOf, keepOf, List.map_cons, List.map_nil, List.length_cons, List.length_nil, List.cons_append, List.nil_append, Nat.reduceAdd, Nat.reduceSub, List.replicate_succ, List.replicate_zero, List.replicate, List.set_cons_zero, List.set_cons_succ, List.getElem?_cons_zero, List.getElem?_cons_succ, Int.reduceToNat, Int.reduceNeg, Bool.false_eq_true, if_true, if_false, decide_eq_true_eq, Option.some.injEq, exists_eq_left', exists_eq_left, true_and, and_true, D.key, D.int.injEq, D.bl.injEq, D.tup.injEq, D.ref.injEq, D.lst.injEq, D.arg.injEq]
      exact ⟨cm_small (by omega), ⟨by decide, by decide, by omega⟩, g0, _, _, _, _, rfl⟩
  · subst e1 e2
    simp only [sSeq, sAsg, sRet, sRetN, sDrop, sIf, sPar, sDPutD, sNext, sBrk, sCont, sRaise, sAugI, sFor, sFreeze, dVar, dC, dOp, dTest, dAnd, dOr, dNot, dAndV, dOrV, dNotV, dIf, dChain, dTup, dLst, dLstM, dNil, dCons, dCB, dCall, dCallK, dRev, dSlice, oNone, oSome, dIsN, dNeg, dDGet, dDict, dPs, dPop, dPopAt, dAppend, dLc, dRgL, dRgT, gRg1, gRg2, iSeqD, iRng1D, iRng2D, tTrue, rdAdd, rdI, rdI0, rdB0, rdIx, rdMul, cdLen, cdAbs, cdInt, cdMin2, cdMax2, cdTup, cdList, cdListM, cdAll, cdAny, cdIsi, dName, dGTup, dGCons, dGNil, dGSub, startD, wipeD, seqOf, listOf, keepOf, List.map_cons, List.map_nil, List.length_cons, List.length_nil, List.cons_append, List.nil_append, Nat.reduceAdd, Nat.reduceSub, List.replicate_succ, List.replicate_zero, List.replicate, List.set_cons_zero, List.set_cons_succ, List.getElem?_cons_zero, List.getElem?_cons_succ, Int.reduceToNat, Int.reduceNeg, Bool.false_eq_true, if_true, if_false, decide_eq_true_eq, Option.some.injEq, exists_eq_left', exists_eq_left, true_and, and_true, D.key, D.int.injEq, D.bl.injEq, D.tup.injEq, D.ref.injEq, D.lst.injEq, D.arg.injEq]
    exact fin_self (k f _ ⟨ls, r, cs, t + 1, mset_same, by rw [mset_ne nql.symm]; exact hl, nql, h1, h2⟩ Keep.draw)
theorem pu__law_take (ds : List D) (μ : Mu) (Q : DQ) (QE : XQ) (h : sd__law_take ds μ Q QE) : db__law_take { nx := fun _ μ' => fin Q .non μ', rt := fin Q, xe := finX QE } (startD ["draw", "amount", "found"] ds) μ := by
  obtain ⟨q, l, n, rfl, ⟨ls, r, cs, t, hq, hl, nql, h1, h2⟩, n0, n1, k⟩ := h
  -- what stands behind the if
  have rest : ∀ μ' : Mu, DrawAt μ' q l → Keep q l μ μ' → sSeq (sAsg (dOp (rdI (fun _ j => 0 < j) fun i j => i % j) (dCB cdInt (dCons (dDGet (dVar 0) (dC (.str "rest"))) dNil)) (dVar 1)) (dName 2))
      (sSeq (sDPutD (dVar 0) (dC (.str "rest")) (dOp (rdI CDivW fun i j => i / j) (dCB cdInt (dCons (dDGet (dVar 0) (dC (.str "rest"))) dNil)) (dVar 1))) (sRet (dVar 2))) { nx := fun _ μ' => fin Q .non μ', rt := fin Q, xe := finX QE } (startD ["draw", "amount", "found"] [.ref q, .int n]) μ' := by
    intro μ' ⟨ls, r, cs, t, hq, hl, nql, h1, h2⟩ kp
    simp only [sSeq, sAsg, sRet, sRetN, sDrop, sIf, sPar, sDPutD, sNext, sBrk, sCont, sRaise, sAugI, sFor, sFreeze, dVar, dC, dOp, dTest, dAnd, dOr, dNot, dAndV, dOrV, dNotV, dIf, dChain, dTup, dLst, dLstM, dNil, dCons, dCB, dCall, dCallK, dRev, dSlice, oNone, oSome, dIsN, dNeg, dDGet, dDict, dPs, dPop, dPopAt, dAppend, dLc, dRgL, dRgT, gRg1, gRg2, iSeqD, iRng1D, iRng2D, tTrue, rdAdd, rdI, rdI0, rdB0, rdIx, rdMul, cdLen, cdAbs, cdInt, cdMin2, cdMax2, cdTup, cdList, cdListM, cdAll, cdAny, cdIsi, dName, dGTup, dGCons, dGNil, dGSub, startD, wipeD, seqOf, listOf, keepOf, List.map_cons, List.map_nil, List.length_cons, List.length_nil, List.cons_append, List.nil_append, Nat.reduceAdd, Nat.reduceSub, List.replicate_succ, List.replicate_zero, List.replicate, List.set_cons_zero, List.set_cons_succ, List.getElem?_cons_zero, List.getElem?_cons_succ, Int.reduceToNat, Int.reduceNeg, Bool.false_eq_true, if_true, if_false, decide_eq_true_eq, Option.some.injEq, exists_eq_left', exists_eq_left, true_and, and_true, D.key, D.int.injEq, D.bl.injEq, D.tup.injEq, D.ref.injEq, D.lst.injEq, D.arg.injEq]
    refine ⟨_, _, _, _, rfl, hq, rfl, val_rest, ?_⟩
    dsimp only
    refine ⟨n0, _, _, _, _, rfl, hq, rfl, val_rest, ?_⟩
    dsimp only
    refine ⟨cdiv_small n0 n1, _, _, _, rfl, hq, rfl, sl_lt (by simp), ?_⟩
    rw [put_rest]
    exact fin_self (k _ _ (Int.emod_nonneg _ (by omega)) (Int.emod_lt_of_pos _ n0) ⟨ls, _, cs, t, mset_same, by rw [mset_ne nql.symm]; exact hl, nql, h1, h2⟩ (kp.trans Keep.draw))
  unfold db__law_take
  unfold sSeq
  simp only [sIf, sDPutD, dTest, dOp, dDGet, dVar, dC, dIf, dPopAt, dLst, dNil, dCall, dCons, startD, List.map_cons, List.map_nil, List.length_cons, List.length_nil, List.cons_append, List.nil_append, Nat.reduceAdd, Nat.reduceSub, List.replicate_succ, List.replicate_zero, List.getElem?_cons_zero, List.getElem?_cons_succ, Option.some.injEq, exists_eq_left']
  refine ⟨_, _, _, _, rfl, hq, rfl, val_rest, eq_int ?_⟩
  rw [Bool.xor_false]
  refine ⟨_, rfl, ?_⟩
  by_cases c : r = 0
  · rw [if_pos (decide_eq_true c)]
    refine ⟨_, _, _, _, rfl, hq, rfl, val_large, sl_ok (by decide), eq_nil (xs := ls.map .int) (by simp only [listOf, hl]) ints_ok ?_⟩
    refine ⟨_, rfl, ?_⟩
    cases ls with
    | nil =>
      rw [if_neg (by decide)]
      refine ⟨q, l, rfl, ⟨[], r, cs, t, hq, hl, nql, h1, h2⟩, fun m μ' ⟨ls, r, cs, t, hq, hl, nql, h1, h2⟩ kp => ?_⟩
      refine ⟨_, _, _, rfl, hq, rfl, sl_lt (by simp), ?_⟩
      rw [put_rest]
      exact rest _ ⟨ls, m, cs, t, mset_same, by rw [mset_ne nql.symm]; exact hl, nql, h1, h2⟩ (kp.trans Keep.draw)
    | cons m ls =>
      rw [if_pos (by simp)]
      refine ⟨_, _, _, _, rfl, hq, rfl, val_large, _, _, rfl, hl, _, _, 0, _, rfl, hl, by decide, by decide, ?_, rfl, ?_⟩
      · simp [seqIndex?]
      refine ⟨_, _, _, rfl, by rw [mset_ne nql]; exact hq, rfl, sl_lt (by simp), ?_⟩
      rw [put_rest]
      exact rest _ ⟨ls, m, cs, t, mset_same, by rw [mset_ne nql.symm, mset_same]; rfl, nql, by simp at h1; omega, h2⟩ (Keep.large.trans Keep.draw)
  · rw [if_neg (by simpa using c)]
    exact rest μ ⟨ls, r, cs, t, hq, hl, nql, h1, h2⟩ Keep.rfl'
theorem pu__law_pick (ds : List D) (μ : Mu) (Q : DQ) (QE : XQ) (h : sd__law_pick ds μ Q QE) : db__law_pick { nx := fun _ μ' => fin Q .non μ', rt := fin Q, xe := finX QE } (startD ["draw", "some"] ds) μ := by
  obtain ⟨q, l, d, xs, rfl, hd, h0, h1, D0, k⟩ := h
  have hs : ∀ μ' : Mu, seqOf μ' d = some xs := fun μ' => by rcases hd with rfl | rfl <;> rfl
  have hL : ∀ (μ' : Mu) (R : DQ), R (.int xs.length) μ' → cdLen [d] μ' R := fun μ' R hr => by
    rcases hd with rfl | rfl
    · exact ⟨xs, rfl, hr⟩
    · exact ⟨xs, rfl, hr⟩
  unfold db__law_pick
  simp only [sRet, dOp, dVar, dCall, dCons, dCB, dNil, rdIx, startD, List.map_cons, List.map_nil, List.length_cons, List.length_nil, List.cons_append, List.nil_append, Nat.reduceAdd, Nat.reduceSub, List.replicate_zero, List.getElem?_cons_zero, List.getElem?_cons_succ, Option.some.injEq, exists_eq_left']
  refine hL _ _ ⟨q, l, xs.length, rfl, D0, by omega, by omega, fun i μ' i0 i1 D1 kp => ?_⟩
  have hi : i.toNat < xs.length := by omega
  refine ⟨xs, hs μ', xs[i.toNat], ?_, fin_self (k i.toNat _ μ' (by simp [hi]) D1 kp)⟩
  unfold atI ixN
  rw [if_pos i0, if_pos i1]
  simp [hi]
theorem erase_perm {α : Type} : ∀ (l : List α) (i : Nat) (h : i < l.length), (l[i] :: l.eraseIdx i).Perm l
  | a :: l, 0, _ => List.Perm.refl _
  | a :: l, i + 1, h => by
    have h' : i < l.length := by simpa using h
    have := erase_perm l i h'
    show (l[i] :: a :: l.eraseIdx i).Perm (a :: l)
    exact (List.Perm.swap a l[i] _).trans (this.cons a)
theorem pu__law_shuffled (ds : List D) (μ : Mu) (Q : DQ) (QE : XQ) (h : sd__law_shuffled ds μ Q QE) : db__law_shuffled { nx := fun _ μ' => fin Q .non μ', rt := fin Q, xe := finX QE } (startD ["draw", "some", "left", "found"] ds) μ := by
  obtain ⟨q, l, d, xs, rfl, hd, h1, hp, D0, k⟩ := h
  have main : ∀ (p1 p2 : Addr) (μ1 : Mu), μ p1 = none → μ p2 = none → p1 ≠ p2 → μ1 p1 = some (.lst xs) → μ1 p2 = some (.lst []) → DrawAt μ1 q l → Keep q l μ μ1 →
      sSeq (sWhile (dTest (dOp (rdEq true) (dVar 2) (dLst dNil))) (sDrop (dAppend (dVar 3) (dPopAt (dVar 2) (dCall sd__law_take (dCons (dVar 0) (dCons (dCB cdLen (dCons (dVar 2) dNil)) dNil))))))) (sRet (dVar 3))
        { nx := fun _ μ' => fin Q .non μ', rt := fin Q, xe := finX QE } [some (.ref q), some d, some (.ref p1), some (.ref p2)] μ1 := by
    intro p1 p2 μ1 n1 n2 n12 a1 a2 D1 K1
    have q1 := D0.q n1
    have l1 := D0.l n1
    have q2 := D0.q n2
    have l2 := D0.l n2
    unfold sSeq sWhile
    refine ⟨fun m ρ' μ' => ρ' = [some (.ref q), some d, some (.ref p1), some (.ref p2)] ∧ DrawAt μ' q l ∧ Keep q l μ μ' ∧ ∃ ls fs, m = ls.length ∧ μ' p1 = some (.lst ls) ∧ μ' p2 = some (.lst fs) ∧ (fs ++ ls).Perm xs, ⟨_, rfl, D1, K1, xs, [], rfl, a1, a2, List.Perm.refl _⟩, ?_⟩
    rintro m ρ' μ' ⟨rfl, D2, K2, ls, fs, rfl, b1, b2, pm⟩
    have hlen := pm.length_eq
    rw [List.length_append] at hlen
    simp only [sSeq, sAsg, sRet, sRetN, sDrop, sIf, sPar, sDPutD, sNext, sBrk, sCont, sRaise, sAugI, sFor, sFreeze, dVar, dC, dOp, dTest, dAnd, dOr, dNot, dAndV, dOrV, dNotV, dIf, dChain, dTup, dLst, dLstM, dNil, dCons, dCB, dCall, dCallK, dRev, dSlice, oNone, oSome, dIsN, dNeg, dDGet, dDict, dPs, dPop, dPopAt, dAppend, dLc, dRgL, dRgT, gRg1, gRg2, iSeqD, iRng1D, iRng2D, tTrue, rdAdd, rdI, rdI0, rdB0, rdIx, rdMul, cdLen, cdAbs, cdInt, cdMin2, cdMax2, cdTup, cdList, cdListM, cdAll, cdAny, cdIsi, dName, dGTup, dGCons, dGNil, dGSub, startD, wipeD, seqOf, listOf, keepOf, List.map_cons, List.map_nil, List.length_cons, List.length_nil, List.cons_append, List.nil_append, Nat.reduceAdd, Nat.reduceSub, List.replicate_succ, List.replicate_zero, List.replicate, List.set_cons_zero, List.set_cons_succ, List.getElem?_cons_zero, List.getElem?_cons_succ, Int.reduceToNat, Int.reduceNeg, Bool.false_eq_true, if_true, if_false, decide_eq_true_eq, Option.some.injEq, exists_eq_left', exists_eq_left, true_and, and_true, D.key, D.int.injEq, D.bl.injEq, D.tup.injEq, D.ref.injEq, D.lst.injEq, D.arg.injEq]
    refine ⟨sl_ok (by decide), eq_nil (xs := ls) (by simp only [listOf, b1]) (fun x hx => hp x (pm.mem_iff.mp (List.mem_append_right _ hx))) ⟨_, rfl, ?_⟩⟩
    by_cases c : ls = []
    · subst c
      rw [if_neg (by simp)]
      refine fin_self (k p2 fs μ' ?_ n2 b2 D2 K2)
      rw [List.append_nil] at pm
      exact pm
    · rw [if_pos (by simp [c])]
      have hpos := List.length_pos_iff.mpr c
      refine ⟨p2, fs, rfl, b2, p1, ls, rfl, b1, ?_⟩
      refine ⟨ls, by simp only [b1], ?_⟩
      refine ⟨q, l, ls.length, rfl, D2, by omega, by omega, fun i μ3 i0 i1 D3 K3 => ?_⟩
      have hi : i.toNat < ls.length := by omega
      have b1' := K3 p1 _ q1 l1 b1
      have b2' := K3 p2 _ q2 l2 b2
      refine ⟨ls, i, i.toNat, ls[i.toNat], rfl, b1', by omega, by omega, seqIx_nat i0 i1, by simp [hi], ?_⟩
      refine ⟨fs, by rw [mset_ne n12.symm]; exact b2', sl_lt (by omega), ?_⟩
      refine ⟨(ls.eraseIdx i.toNat).length, ?_, (D3.mset q1 l1).mset q2 l2, ((K2.trans K3).mset n1).mset n2, _, _, rfl, ?_, mset_same, ?_⟩
      · rw [List.length_eraseIdx_of_lt hi]; omega
      · rw [mset_ne n12]; exact mset_same
      · rw [List.append_assoc]
        refine List.Perm.trans (List.Perm.append_left fs ?_) pm
        exact erase_perm ls _ hi
  rcases hd with rfl | rfl
  · unfold db__law_shuffled
    unfold sSeq sPar
    simp only [dCB, dCons, dNil, dVar, cdListM, dLstM, startD, List.map_cons, List.map_nil, List.length_cons, List.length_nil, List.cons_append, List.nil_append, Nat.reduceAdd, Nat.reduceSub, List.replicate_succ, List.replicate_zero, List.replicate, List.getElem?_cons_zero, List.getElem?_cons_succ, Option.some.injEq, exists_eq_left', seqOf, List.set_cons_zero, List.set_cons_succ]
    intro p1 n1
    refine ⟨sl_ok (by decide), fun p2 n2 => ?_⟩
    have n12 : p1 ≠ p2 := fun z => by rw [z, mset_same] at n2; cases n2
    have n2' : μ p2 = none := by rw [mset_ne n12.symm] at n2; exact n2
    exact main p1 p2 _ n1 n2' n12 (by rw [mset_ne n12]; exact mset_same) mset_same ((D0.mset (D0.q n1) (D0.l n1)).mset (D0.q n2') (D0.l n2')) ((Keep.rfl'.mset n1).mset n2')
  · unfold db__law_shuffled
    unfold sSeq sPar
    simp only [dCB, dCons, dNil, dVar, cdListM, dLstM, startD, List.map_cons, List.map_nil, List.length_cons, List.length_nil, List.cons_append, List.nil_append, Nat.reduceAdd, Nat.reduceSub, List.replicate_succ, List.replicate_zero, List.replicate, List.getElem?_cons_zero, List.getElem?_cons_succ, Option.some.injEq, exists_eq_left', seqOf, List.set_cons_zero, List.set_cons_succ]
    intro p1 n1
    refine ⟨sl_ok (by decide), fun p2 n2 => ?_⟩
    have n12 : p1 ≠ p2 := fun z => by rw [z, mset_same] at n2; cases n2
    have n2' : μ p2 = none := by rw [mset_ne n12.symm] at n2; exact n2
    exact main p1 p2 _ n1 n2' n12 (by rw [mset_ne n12]; exact mset_same) mset_same ((D0.mset (D0.q n1) (D0.l n1)).mset (D0.q n2') (D0.l n2')) ((Keep.rfl'.mset n1).mset n2')
end DL

/-! kinds.py and letters.py. -/
namespace DL
open PySem PySem.Spec PyProof.Rows L2
def isIntD : D → Bool
  | .int _ => true
  | _ => false
def isBlD : D → Bool
  | .bl _ => true
  | _ => false
def isTupD : D → Bool
  | .tup _ => true
  | _ => false
def isLstD (μ : Mu) : D → Bool
  | .lst _ => true
  | .ref a => match μ a with
    | some (.lst _) => true
    | _ => false
  | _ => false
def btw (d : D) (lo hi : Int) : Bool := match d with
  | .int i => decide (lo ≤ i) && decide (i ≤ hi)
  | _ => false
def Ty (μ : Mu) (d : D) : Prop := ∃ t, tyD μ d = some t
def TyA (μ : Mu) (d : D) : Prop := Ty μ d ∧ ∀ xs, d = .tup xs → ∀ x ∈ xs, Ty μ x
/-- which of int, bool, tuple, list a built-in type is below -/
structure KT (t : String) (i b u l : Bool) : Prop where
  i : kitB t "int" = some i
  b : kitB t "bool" = some b
  u : kitB t "tuple" = some u
  l : kitB t "list" = some l
theorem kt_NoneType : KT "NoneType" false false false false := ⟨by decide +kernel, by decide +kernel, by decide +kernel, by decide +kernel⟩
theorem kt_bool : KT "bool" true true false false := ⟨by decide +kernel, by decide +kernel, by decide +kernel, by decide +kernel⟩
theorem kt_int : KT "int" true false false false := ⟨by decide +kernel, by decide +kernel, by decide +kernel, by decide +kernel⟩
theorem kt_str : KT "str" false false false false := ⟨by decide +kernel, by decide +kernel, by decide +kernel, by decide +kernel⟩
theorem kt_list : KT "list" false false false true := ⟨by decide +kernel, by decide +kernel, by decide +kernel, by decide +kernel⟩
theorem kt_tuple : KT "tuple" false false true false := ⟨by decide +kernel, by decide +kernel, by decide +kernel, by decide +kernel⟩
theorem kt_dict : KT "dict" false false false false := ⟨by decide +kernel, by decide +kernel, by decide +kernel, by decide +kernel⟩
theorem kit_ty' {μ : Mu} {d : D} {t : String} (h : tyD μ d = some t) : KT t (isIntD d || isBlD d) (isBlD d) (isTupD d) (isLstD μ d) := by
  cases d with
  | ref a =>
    have h : (match μ a with | some (.lst _) => some "list" | some (.dct _) => some "dict" | _ => none) = some t := h
    show KT t false false false (match μ a with | some (.lst _) => true | _ => false)
    split at h
    · cases h; rename_i e; simp only [e]; exact kt_list
    · cases h; rename_i e; simp only [e]; exact kt_dict
    · cases h
  | arg _ => cases h
  | ins _ _ => cases h
  | ty _ => cases h
  | cls _ => cases h
  | fn _ _ _ => cases h
  | exc _ _ => cases h
  | non => cases h; exact kt_NoneType
  | bl _ => cases h; exact kt_bool
  | int _ => cases h; exact kt_int
  | str _ => cases h; exact kt_str
  | lst _ => cases h; exact kt_list
  | tup _ => cases h; exact kt_tuple
def sd_is_number : SpD := fun ds μ Q _ => ∃ d, ds = [d] ∧ Ty μ d ∧ Q (.bl (isIntD d)) μ
def sd_is_between : SpD := fun ds μ Q _ => ∃ d lo hi, ds = [d, .int lo, .int hi] ∧ Ty μ d ∧ Q (.bl (btw d lo hi)) μ
def intsOf : List D → Option (List Int)
  | [] => some []
  | .int i :: ds => (intsOf ds).map (i :: ·)
  | _ => none
def isBackI (ns : List Int) : Bool := decide (2 ≤ ns.length) && decide (ns.length ≤ 12) && (ns.all fun i => decide (0 ≤ i) && decide (i ≤ (ns.length : Int) - 1)) && (List.range ns.length).all fun k => decide (ns.getD (ns.getD k 0).toNat 0 = (k : Int))
def isBackD : D → Bool
  | .tup xs => match intsOf xs with
    | some ns => isBackI ns
    | none => false
  | _ => false
def sd_is_back : SpD := fun ds μ Q _ => ∃ d, ds = [d] ∧ TyA μ d ∧ Q (.bl (isBackD d)) μ
def sd_need_back : SpD := fun ds μ Q E => ∃ d, ds = [d] ∧ TyA μ d ∧ (isBackD d = true → Q .non μ) ∧ (isBackD d = false → E ⟨"BadBack", []⟩ μ)
def isLet (n : Int) : D → Bool
  | .tup xs => xs.all fun x => btw x 0 (n - 1)
  | _ => false
def lenD : D → Int
  | .tup xs => xs.length
  | _ => 0
def sd_is_letters : SpD := fun ds μ Q _ => ∃ bs d, ds = [.tup bs, d] ∧ TyA μ d ∧ (∀ xs, d = .tup xs → xs.length < 1000000) ∧ Q (.bl (isLet bs.length d)) μ
def isWd (n : Int) (d : D) : Bool := isLet n d && decide (lenD d ≤ 200)
def sd_is_word : SpD := fun ds μ Q E => ∃ b d, ds = [b, d] ∧ TyA μ b ∧ (isBackD b = true → TyA μ d ∧ (∀ xs, d = .tup xs → xs.length < 1000000) ∧ Q (.bl (isWd (lenD b) d)) μ) ∧ (isBackD b = false → E ⟨"BadBack", []⟩ μ)
def sd_need_word : SpD := fun ds μ Q E => ∃ b d, ds = [b, d] ∧ TyA μ b ∧ (isBackD b = true → TyA μ d ∧ (∀ xs, d = .tup xs → xs.length < 1000000) ∧ (isWd (lenD b) d = true → Q .non μ) ∧ (isWd (lenD b) d = false → E ⟨"BadWord", []⟩ μ)) ∧ (isBackD b = false → E ⟨"BadBack", []⟩ μ)
def frStep (bs : List Int) (st : List Int) (l : Int) : List Int := if st ≠ [] ∧ st.getD (st.length - 1) 0 = bs.getD l.toNat 0 then st.dropLast else st ++ [l]
def freeI (bs ws : List Int) : List Int := ws.foldl (frStep bs) []
def undoI (bs ws : List Int) : List Int := ws.reverse.map fun l => bs.getD l.toNat 0
def Lets (n : Nat) (ws : List Int) : Prop := ∀ l ∈ ws, 0 ≤ l ∧ l < n
def sd_free_of : SpD := fun ds μ Q _ => ∃ bs ws, ds = [tI bs, tI ws] ∧ Lets bs.length ws ∧ ws.length < 100000 ∧ Q (tI (freeI bs ws)) μ
def sd_undone_of : SpD := fun ds μ Q _ => ∃ bs ws, ds = [tI bs, tI ws] ∧ Lets bs.length ws ∧ ws.length < 100000 ∧ Q (tI (undoI bs ws)) μ
def sd_free : SpD := fun ds μ Q E => ∃ b d, ds = [b, d] ∧ TyA μ b ∧ (isBackD b = true → TyA μ d ∧ (∀ xs, d = .tup xs → xs.length < 1000000) ∧ (∀ bs ws, b = tI bs → d = tI ws → Lets bs.length ws → ws.length ≤ 200 → Q (tI (freeI bs ws)) μ) ∧ (isWd (lenD b) d = false → E ⟨"BadWord", []⟩ μ)) ∧ (isBackD b = false → E ⟨"BadBack", []⟩ μ)
def sd_undone : SpD := fun ds μ Q E => ∃ b d, ds = [b, d] ∧ TyA μ b ∧ (isBackD b = true → TyA μ d ∧ (∀ xs, d = .tup xs → xs.length < 1000000) ∧ (∀ bs ws, b = tI bs → d = tI ws → Lets bs.length ws → ws.length ≤ 200 → Q (tI (undoI bs ws)) μ) ∧ (isWd (lenD b) d = false → E ⟨"BadWord", []⟩ μ)) ∧ (isBackD b = false → E ⟨"BadBack", []⟩ μ)
/-- slots: 0 thing -/
def db_is_number : DS :=
  (sRet (dAndV (dCB cdIsi (dCons (dVar 0) (dCons (dC (.ty "int")) dNil))) (dNotV (dCB cdIsi (dCons (dVar 0) (dCons (dC (.ty "bool")) dNil))))))
/-- slots: 0 thing, 1 low, 2 high -/
def db_is_between : DS :=
  (sRet (dAndV (dCall sd_is_number (dCons (dVar 0) dNil)) (dChain (rdB0 fun i j => decide (i ≤ j)) (rdB0 fun i j => decide (i ≤ j)) (dVar 1) (dVar 0) (dVar 2))))
/-- slots: 0 thing, 1 item, 2 k -/
def db_is_back : DS :=
  (sSeq (sIf (dOr (dNot (dTest (dCB cdIsi (dCons (dVar 0) (dCons (dC (.ty "tuple")) dNil))))) (dNot (dTest (dChain (rdB0 fun i j => decide (i ≤ j)) (rdB0 fun i j => decide (i ≤ j)) (dC (.int 2)) (dCB cdLen (dCons (dVar 0) dNil)) (dC (.int 12)))))) (sRet (dC (.bl false))) sNext)
    (sSeq (sIf (dNot (dTest (dCB cdAll (dCons (dLc false (iSeqD (dVar 0)) (dName 1) tTrue (dCall sd_is_between (dCons (dVar 1) (dCons (dC (.int 0)) (dCons (dOp (rdI0 fun i j => i - j) (dCB cdLen (dCons (dVar 0) dNil)) (dC (.int 1))) dNil)))) [1]) dNil)))) (sRet (dC (.bl false))) sNext)
    (sRet (dCB cdAll (dCons (dLc false (iRng1D (dCB cdLen (dCons (dVar 0) dNil))) (dName 2) tTrue (dOp (rdEq false) (dOp rdIx (dVar 0) (dOp rdIx (dVar 0) (dVar 2))) (dVar 2)) [2]) dNil)))))
/-- slots: 0 back -/
def db_need_back : DS :=
  (sIf (dNot (dTest (dCall sd_is_back (dCons (dVar 0) dNil)))) (sRaise "BadBack") sNext)
/-- slots: 0 back, 1 thing, 2 item -/
def db_is_letters : DS :=
  (sRet (dAndV (dCB cdIsi (dCons (dVar 1) (dCons (dC (.ty "tuple")) dNil))) (dCB cdAll (dCons (dLc false (iSeqD (dVar 1)) (dName 2) tTrue (dCall sd_is_between (dCons (dVar 2) (dCons (dC (.int 0)) (dCons (dOp (rdI0 fun i j => i - j) (dCB cdLen (dCons (dVar 0) dNil)) (dC (.int 1))) dNil)))) [2]) dNil))))
/-- slots: 0 back, 1 thing -/
def db_is_word : DS :=
  (sSeq (sDrop (dCall sd_need_back (dCons (dVar 0) dNil)))
    (sRet (dAndV (dCall sd_is_letters (dCons (dVar 0) (dCons (dVar 1) dNil))) (dOp (rdB0 fun i j => decide (i ≤ j)) (dCB cdLen (dCons (dVar 1) dNil)) (dC (.int 200))))))
/-- slots: 0 back, 1 thing -/
def db_need_word : DS :=
  (sIf (dNot (dTest (dCall sd_is_word (dCons (dVar 0) (dCons (dVar 1) dNil))))) (sRaise "BadWord") sNext)
/-- slots: 0 back, 1 word, 2 found, 3 letter -/
def db_free_of : DS :=
  (sSeq (sAsg (dLstM dNil) (dName 2))
    (sSeq (sFor (iSeqD (dVar 1)) (dName 3) (sIf (dAnd (dTest (dOp (rdEq true) (dVar 2) (dLst dNil))) (dTest (dOp (rdEq false) (dOp rdIx (dVar 2) (dNeg (dC (.int 1)))) (dOp rdIx (dVar 0) (dVar 3))))) (sDrop (dPop (dVar 2))) (sDrop (dAppend (dVar 2) (dVar 3)))))
    (sRet (dCB cdTup (dCons (dVar 2) dNil)))))
/-- slots: 0 back, 1 word -/
def db_free : DS :=
  (sSeq (sDrop (dCall sd_need_word (dCons (dVar 0) (dCons (dVar 1) dNil))))
    (sRet (dCall sd_free_of (dCons (dVar 0) (dCons (dVar 1) dNil)))))
/-- slots: 0 back, 1 word, 2 letter -/
def db_undone_of : DS :=
  (sRet (dCB cdTup (dCons (dLc false (iSeqD (dRev (dVar 1))) (dName 2) tTrue (dOp rdIx (dVar 0) (dVar 2)) [2]) dNil)))
/-- slots: 0 back, 1 word -/
def db_undone : DS :=
  (sSeq (sDrop (dCall sd_need_word (dCons (dVar 0) (dCons (dVar 1) dNil))))
    (sRet (dCall sd_undone_of (dCons (dVar 0) (dCons (dVar 1) dNil)))))
theorem intsOf_map : ∀ ns : List Int, intsOf (ns.map D.int) = some ns
  | [] => rfl
  | n :: ns => by rw [List.map_cons]; show (intsOf (ns.map D.int)).map (n :: ·) = _; rw [intsOf_map ns]; rfl
theorem intsOf_inv : ∀ {xs : List D} {ns : List Int}, intsOf xs = some ns → xs = ns.map D.int
  | [], ns, h => by cases h; rfl
  | .int i :: ds, ns, h => by
    obtain ⟨ms, h1, rfl⟩ := Option.map_eq_some_iff.mp h
    rw [intsOf_inv h1, List.map_cons]
  | .non :: _, _, h => by cases h
  | .bl _ :: _, _, h => by cases h
  | .str _ :: _, _, h => by cases h
  | .lst _ :: _, _, h => by cases h
  | .tup _ :: _, _, h => by cases h
  | .arg _ :: _, _, h => by cases h
  | .ins _ _ :: _, _, h => by cases h
  | .ref _ :: _, _, h => by cases h
  | .ty _ :: _, _, h => by cases h
  | .cls _ :: _, _, h => by cases h
  | .fn _ _ _ :: _, _, h => by cases h
  | .exc _ _ :: _, _, h => by cases h
theorem btw_ints {lo hi : Int} : ∀ {xs : List D}, (xs.all fun x => btw x lo hi) = true → ∃ ns : List Int, xs = ns.map D.int ∧ ∀ n ∈ ns, lo ≤ n ∧ n ≤ hi
  | [], _ => ⟨[], rfl, fun n h => by cases h⟩
  | x :: xs, h => by
    rw [List.all_cons, Bool.and_eq_true] at h
    obtain ⟨ns, rfl, hn⟩ := btw_ints h.2
    cases x with
    | int i =>
      have h1 := h.1
      simp only [btw, Bool.and_eq_true, decide_eq_true_eq] at h1
      refine ⟨i :: ns, rfl, fun n hm => ?_⟩
      rcases List.mem_cons.mp hm with rfl | hm
      · exact h1
      · exact hn n hm
    | _ => simp [btw] at h
theorem isBackD_tI (ns : List Int) : isBackD (tI ns) = isBackI ns := by
  show (match intsOf (ns.map D.int) with | some ns => isBackI ns | none => false) = _
  rw [intsOf_map]
theorem isBackD_inv {d : D} (h : isBackD d = true) : ∃ ns, d = tI ns ∧ isBackI ns = true := by
  cases d with
  | tup xs =>
    have h : (match intsOf xs with | some ns => isBackI ns | none => false) = true := h
    split at h
    · rename_i ns e
      exact ⟨ns, by rw [intsOf_inv e], h⟩
    · cases h
  | _ => cases h
theorem all_of {n : Nat} {f : Nat → Bool} (h : (List.range n).all f = true) : ∀ k, k < n → f k = true := fun k hk => List.all_eq_true.mp h k (List.mem_range.mpr hk)
structure BackI (ns : List Int) : Prop where
  two : 2 ≤ ns.length
  few : ns.length ≤ 12
  lets : Lets ns.length ns
  inv : ∀ k : Nat, k < ns.length → ns.getD (ns.getD k 0).toNat 0 = (k : Int)
theorem backI {ns : List Int} (h : isBackI ns = true) : BackI ns := by
  unfold isBackI at h
  simp only [Bool.and_eq_true, decide_eq_true_eq, List.all_eq_true] at h
  obtain ⟨⟨⟨h1, h2⟩, h3⟩, h4⟩ := h
  exact ⟨h1, h2, fun l hl => by have := h3 l hl; omega, fun k hk => h4 k (List.mem_range.mpr hk)⟩
theorem backI_of {ns : List Int} (h : BackI ns) : isBackI ns = true := by
  unfold isBackI
  simp only [Bool.and_eq_true, decide_eq_true_eq, List.all_eq_true]
  exact ⟨⟨⟨h.two, h.few⟩, fun l hl => by have := h.lets l hl; omega⟩, fun k hk => h.inv k (List.mem_range.mp hk)⟩
theorem atI_nat' {α : Type} {xs : List α} {i : Int} (h0 : 0 ≤ i) (h1 : i < xs.length) : atI xs i = xs[i.toNat]? := by
  unfold atI ixN
  rw [if_pos h0, if_pos h1]
  rfl
theorem atI_ints {ns : List Int} {i : Int} (h0 : 0 ≤ i) (h1 : i < ns.length) : atI (ns.map D.int) i = some (.int (ns.getD i.toNat 0)) := by
  rw [atI_nat' h0 (by rw [List.length_map]; exact h1), List.getElem?_map]
  have hi : i.toNat < ns.length := by omega
  simp [List.getD_eq_getElem?_getD, hi]
theorem getD_mem' {ns : List Int} {i : Nat} (h : i < ns.length) : ns.getD i 0 ∈ ns := by
  rw [List.getD_eq_getElem?_getD, List.getElem?_eq_getElem h]
  exact List.getElem_mem h
theorem map_bl (f : D → Bool) (xs : List D) : xs.map (fun x => D.bl (f x)) = (xs.map f).map D.bl := by rw [List.map_map]; rfl
theorem all_id (f : D → Bool) (xs : List D) : (xs.map f).all id = xs.all f := by rw [List.all_map]; rfl

theorem rng_get {lo : Int} {n i : Nat} {x : D} (h : (rng lo n)[i]? = some x) : i < n ∧ x = .int (lo + (i : Nat)) := by
  unfold rng at h
  rw [List.getElem?_map] at h
  by_cases c : i < n
  · rw [List.getElem?_range c] at h
    exact ⟨c, (Option.some.inj h).symm⟩
  · rw [List.getElem?_eq_none (by simpa using c)] at h
    cases h
theorem finX_self {Q : XQ} {x : Exn} {μ : Mu} (h : Q x μ) : finX Q x μ := ⟨μ, fun _ _ h => h, h⟩
theorem m_int' (f : Int → Int) : ∀ ns : List Int, (ns.map D.int).map (fun d => match d with | .int i => D.int (f i) | d => d) = (ns.map f).map D.int
  | [] => rfl
  | n :: ns => by rw [List.map_cons, List.map_cons, List.map_cons, List.map_cons, m_int' f ns]
theorem ints_get' {ns : List Int} {i : Nat} {x : D} (h : (ns.map D.int)[i]? = some x) : ∃ n, ns[i]? = some n ∧ x = .int n := by
  rw [List.getElem?_map] at h
  cases e : ns[i]? with
  | none => rw [e] at h; cases h
  | some n => rw [e] at h; exact ⟨n, rfl, (Option.some.inj h).symm⟩
theorem pu_is_number (ds : List D) (μ : Mu) (Q : DQ) (QE : XQ) (h : sd_is_number ds μ Q QE) : db_is_number { nx := fun _ μ' => fin Q .non μ', rt := fin Q, xe := finX QE } (startD ["thing"] ds) μ := by
  obtain ⟨d, rfl, ⟨t, ht⟩, k⟩ := h
  have k1 := (kit_ty' ht).i
  have k2 := (kit_ty' ht).b
  unfold db_is_number
  simp only [sSeq, sAsg, sRet, sRetN, sDrop, sIf, sPar, sDPutD, sNext, sBrk, sCont, sRaise, sAugI, sFor, sFreeze, dVar, dC, dOp, dTest, dAnd, dOr, dNot, dAndV, dOrV, dNotV, dIf, dChain, dTup, dLst, dLstM, dNil, dCons, dCB, dCall, dCallK, dRev, dSlice, oNone, oSome, dIsN, dNeg, dDGet, dDict, dPs, dPop, dPopAt, dAppend, dLc, dRgL, dRgT, gRg1, gRg2, iSeqD, iRng1D, iRng2D, tTrue, rdAdd, rdI, rdI0, rdB0, rdIx, rdMul, cdLen, cdAbs, cdInt, cdMin2, cdMax2, cdTup, cdList, cdListM, cdAll, cdAny, cdIsi, dName, dGTup, dGCons, dGNil, dGSub, startD, wipeD, seqOf, listOf, keepOf, List.map_cons, List.map_nil, List.length_cons, List.length_nil, List.cons_append, List.nil_append, Nat.reduceAdd, Nat.reduceSub, List.replicate_succ, List.replicate_zero, List.replicate, List.set_cons_zero, List.set_cons_succ, List.getElem?_cons_zero, List.getElem?_cons_succ, Int.reduceToNat, Int.reduceNeg, Bool.false_eq_true, if_true, if_false, decide_eq_true_eq, Option.some.injEq, exists_eq_left', exists_eq_left, true_and, and_true, D.key, D.int.injEq, D.bl.injEq, D.tup.injEq, D.ref.injEq, D.lst.injEq, D.arg.injEq]
  refine ⟨t, _, ht, k1, ?_⟩
  cases e1 : isIntD d with
  | true =>
    have e2 : isBlD d = false := by cases d <;> first | rfl | cases e1
    rw [if_pos (by rfl)]
    refine ⟨t, _, ht, k2, fin_self ?_⟩
    rw [e2]
    rw [e1] at k
    exact k
  | false =>
    rw [e1] at k
    cases e2 : isBlD d with
    | true =>
      rw [if_pos (by rfl)]
      refine ⟨t, _, ht, k2, fin_self ?_⟩
      rw [e2]
      exact k
    | false =>
      rw [if_neg (by decide)]
      exact fin_self k
theorem pu_is_between (ds : List D) (μ : Mu) (Q : DQ) (QE : XQ) (h : sd_is_between ds μ Q QE) : db_is_between { nx := fun _ μ' => fin Q .non μ', rt := fin Q, xe := finX QE } (startD ["thing", "low", "high"] ds) μ := by
  obtain ⟨d, lo, hi, rfl, ht, k⟩ := h
  unfold db_is_between
  simp only [sSeq, sAsg, sRet, sRetN, sDrop, sIf, sPar, sDPutD, sNext, sBrk, sCont, sRaise, sAugI, sFor, sFreeze, dVar, dC, dOp, dTest, dAnd, dOr, dNot, dAndV, dOrV, dNotV, dIf, dChain, dTup, dLst, dLstM, dNil, dCons, dCB, dCall, dCallK, dRev, dSlice, oNone, oSome, dIsN, dNeg, dDGet, dDict, dPs, dPop, dPopAt, dAppend, dLc, dRgL, dRgT, gRg1, gRg2, iSeqD, iRng1D, iRng2D, tTrue, rdAdd, rdI, rdI0, rdB0, rdIx, rdMul, cdLen, cdAbs, cdInt, cdMin2, cdMax2, cdTup, cdList, cdListM, cdAll, cdAny, cdIsi, dName, dGTup, dGCons, dGNil, dGSub, startD, wipeD, seqOf, listOf, keepOf, List.map_cons, List.map_nil, List.length_cons, List.length_nil, List.cons_append, List.nil_append, Nat.reduceAdd, Nat.reduceSub, List.replicate_succ, List.replicate_zero, List.replicate, List.set_cons_zero, List.set_cons_succ, List.getElem?_cons_zero, List.getElem?_cons_succ, Int.reduceToNat, Int.reduceNeg, Bool.false_eq_true, if_true, if_false, decide_eq_true_eq, Option.some.injEq, exists_eq_left', exists_eq_left, true_and, and_true, D.key, D.int.injEq, D.bl.injEq, D.tup.injEq, D.ref.injEq, D.lst.injEq, D.arg.injEq]
  refine ⟨d, rfl, ht, _, rfl, ?_⟩
  cases d with
  | int i =>
    rw [if_pos (by rfl)]
    simp only [sSeq, sAsg, sRet, sRetN, sDrop, sIf, sPar, sDPutD, sNext, sBrk, sCont, sRaise, sAugI, sFor, sFreeze, dVar, dC, dOp, dTest, dAnd, dOr, dNot, dAndV, dOrV, dNotV, dIf, dChain, dTup, dLst, dLstM, dNil, dCons, dCB, dCall, dCallK, dRev, dSlice, oNone, oSome, dIsN, dNeg, dDGet, dDict, dPs, dPop, dPopAt, dAppend, dLc, dRgL, dRgT, gRg1, gRg2, iSeqD, iRng1D, iRng2D, tTrue, rdAdd, rdI, rdI0, rdB0, rdIx, rdMul, cdLen, cdAbs, cdInt, cdMin2, cdMax2, cdTup, cdList, cdListM, cdAll, cdAny, cdIsi, dName, dGTup, dGCons, dGNil, dGSub, startD, wipeD, seqOf, listOf, keepOf, List.map_cons, List.map_nil, List.length_cons, List.length_nil, List.cons_append, List.nil_append, Nat.reduceAdd, Nat.reduceSub, List.replicate_succ, List.replicate_zero, List.replicate, List.set_cons_zero, List.set_cons_succ, List.getElem?_cons_zero, List.getElem?_cons_succ, Int.reduceToNat, Int.reduceNeg, Bool.false_eq_true, if_true, if_false, decide_eq_true_eq, Option.some.injEq, exists_eq_left', exists_eq_left, true_and, and_true, D.key, D.int.injEq, D.bl.injEq, D.tup.injEq, D.ref.injEq, D.lst.injEq, D.arg.injEq]
    by_cases c : lo ≤ i
    · rw [if_pos c]
      refine fin_self ?_
      have e : btw (.int i) lo hi = decide (i ≤ hi) := by simp [btw, c]
      rw [e] at k
      exact k
    · rw [if_neg c]
      refine fin_self ?_
      have e : btw (.int i) lo hi = false := by simp [btw, c]
      rw [e] at k
      exact k
  | _ => exact fin_self k
/-- all items between 0 and n - 1, by a comprehension -/
theorem lc_btw {i : Nat} {ρ : Rho} {Q : DQ} {n : Int} {xs : List D} {keep : Mu → Prop} {μ : Mu} {da : DE} (hz : xs.length ≤ sizeLine) (hi : i < ρ.length) (hk : ∀ p m, μ p = none → keep (mset μ p m)) (ht : ∀ x ∈ xs, Ty μ x)
    (ha : ∀ d μ' (R : DQ), R (.int (n - 1)) μ' → da (((ρ.set i none)).set i (some d)) μ' R (fun _ _ => False)) (q : Q (.lst ((xs.map fun x => btw x 0 (n - 1)).map .bl)) μ) :
    lcBody false (dName i) tTrue (dCall sd_is_between (dCons (dVar i) (dCons (dC (.int 0)) (dCons da dNil)))) [i] ρ Q xs keep μ := by
  refine lc_map (fun x => .bl (btw x 0 (n - 1))) hz hk (fun j x μ' R hx hl h => ?_) (fun _ _ => by rw [map_bl]; exact q)
  show (dCall sd_is_between (dCons (dVar i) (dCons (dC (.int 0)) (dCons da dNil)))) ((ρ.set i none).set i (some x)) μ' R _
  refine ⟨x, ?_, ha x μ' _ ⟨x, 0, n - 1, rfl, ?_, h⟩⟩
  · rw [List.getElem?_set_self (by simpa using hi)]
  · obtain ⟨t, ht⟩ := ht x (List.mem_of_getElem? hx)
    refine ⟨t, ?_⟩
    cases x with
    | ref a =>
      have ht : (match μ a with | some (.lst _) => some "list" | some (.dct _) => some "dict" | _ => none) = some t := ht
      show (match μ' a with | some (.lst _) => some "list" | some (.dct _) => some "dict" | _ => none) = some t
      cases e : μ a with
      | none => rw [e] at ht; cases ht
      | some m => rw [hl a m e]; rw [e] at ht; exact ht
    | _ => exact ht
theorem pu_is_back (ds : List D) (μ : Mu) (Q : DQ) (QE : XQ) (h : sd_is_back ds μ Q QE) : db_is_back { nx := fun _ μ' => fin Q .non μ', rt := fin Q, xe := finX QE } (startD ["thing", "item", "k"] ds) μ := by
  obtain ⟨d, rfl, ⟨⟨t, ht⟩, hx⟩, k⟩ := h
  have k3 := (kit_ty' ht).u
  unfold db_is_back
  simp only [sSeq, sAsg, sRet, sRetN, sDrop, sIf, sPar, sDPutD, sNext, sBrk, sCont, sRaise, sAugI, sFor, sFreeze, dVar, dC, dOp, dTest, dAnd, dOr, dNot, dAndV, dOrV, dNotV, dIf, dChain, dTup, dLst, dLstM, dNil, dCons, dCB, dCall, dCallK, dRev, dSlice, oNone, oSome, dIsN, dNeg, dDGet, dDict, dPs, dPop, dPopAt, dAppend, dLc, dRgL, dRgT, gRg1, gRg2, iSeqD, iRng1D, iRng2D, tTrue, rdAdd, rdI, rdI0, rdB0, rdIx, rdMul, cdLen, cdAbs, cdInt, cdMin2, cdMax2, cdTup, cdList, cdListM, cdAll, cdAny, cdIsi, dName, dGTup, dGCons, dGNil, dGSub, startD, wipeD, seqOf, listOf, keepOf, List.map_cons, List.map_nil, List.length_cons, List.length_nil, List.cons_append, List.nil_append, Nat.reduceAdd, Nat.reduceSub, List.replicate_succ, List.replicate_zero, List.replicate, List.set_cons_zero, List.set_cons_succ, List.getElem?_cons_zero, List.getElem?_cons_succ, Int.reduceToNat, Int.reduceNeg, Bool.false_eq_true, if_true, if_false, decide_eq_true_eq, Option.some.injEq, exists_eq_left', exists_eq_left, true_and, and_true, D.key, D.int.injEq, D.bl.injEq, D.tup.injEq, D.ref.injEq, D.lst.injEq, D.arg.injEq]
  refine ⟨t, _, ht, k3, ?_⟩
  cases e : isTupD d with
  | false =>
    rw [if_pos (by rfl)]
    have : isBackD d = false := by cases d <;> first | rfl | cases e
    rw [this] at k
    exact fin_self k
  | true =>
    rw [if_neg (by decide)]
    cases d with
    | tup xs =>
      have hx := hx xs rfl
      simp only [sSeq, sAsg, sRet, sRetN, sDrop, sIf, sPar, sDPutD, sNext, sBrk, sCont, sRaise, sAugI, sFor, sFreeze, dVar, dC, dOp, dTest, dAnd, dOr, dNot, dAndV, dOrV, dNotV, dIf, dChain, dTup, dLst, dLstM, dNil, dCons, dCB, dCall, dCallK, dRev, dSlice, oNone, oSome, dIsN, dNeg, dDGet, dDict, dPs, dPop, dPopAt, dAppend, dLc, dRgL, dRgT, gRg1, gRg2, iSeqD, iRng1D, iRng2D, tTrue, rdAdd, rdI, rdI0, rdB0, rdIx, rdMul, cdLen, cdAbs, cdInt, cdMin2, cdMax2, cdTup, cdList, cdListM, cdAll, cdAny, cdIsi, dName, dGTup, dGCons, dGNil, dGSub, startD, wipeD, seqOf, listOf, keepOf, List.map_cons, List.map_nil, List.length_cons, List.length_nil, List.cons_append, List.nil_append, Nat.reduceAdd, Nat.reduceSub, List.replicate_succ, List.replicate_zero, List.replicate, List.set_cons_zero, List.set_cons_succ, List.getElem?_cons_zero, List.getElem?_cons_succ, Int.reduceToNat, Int.reduceNeg, Bool.false_eq_true, if_true, if_false, decide_eq_true_eq, Option.some.injEq, exists_eq_left', exists_eq_left, true_and, and_true, D.key, D.int.injEq, D.bl.injEq, D.tup.injEq, D.ref.injEq, D.lst.injEq, D.arg.injEq]
      by_cases c2 : (2 : Int) ≤ xs.length
      · rw [if_pos c2]
        by_cases c12 : (xs.length : Int) ≤ 12
        · rw [if_neg (by simp [c12])]
          have hz : xs.length ≤ sizeLine := sl_ok (by omega)
          refine lc_btw (n := xs.length) hz (by simp) (fun _ _ _ => trivial) hx (fun d μ' R hR => by simp only [sSeq, sAsg, sRet, sRetN, sDrop, sIf, sPar, sDPutD, sNext, sBrk, sCont, sRaise, sAugI, sFor, sFreeze, dVar, dC, dOp, dTest, dAnd, dOr, dNot, dAndV, dOrV, dNotV, dIf, dChain, dTup, dLst, dLstM, dNil, dCons, dCB, dCall, dCallK, dRev, dSlice, oNone, oSome, dIsN, dNeg, dDGet, dDict, dPs, dPop, dPopAt, dAppend, dLc, dRgL, dRgT, gRg1, gRg2, iSeqD, iRng1D, iRng2D, tTrue, rdAdd, rdI, rdI0, rdB0, rdIx, rdMul, cdLen, cdAbs, cdInt, cdMin2, cdMax2, cdTup, cdList, cdListM, cdAll, cdAny, cdIsi, dName, dGTup, dGCons, dGNil, dGSub, startD, wipeD, seqOf, listOf, keepOf, List.map_cons, List.map_nil, List.length_cons, List.length_nil, List.cons_append, List.nil_append, Nat.reduceAdd, Nat.reduceSub, List.replicate_succ, List.replicate_zero, List.replicate, List.set_cons_zero, List.set_cons_succ, List.getElem?_cons_zero, List.getElem?_cons_succ, Int.reduceToNat, Int.reduceNeg, Bool.false_eq_true, if_true, if_false, decide_eq_true_eq, Option.some.injEq, exists_eq_left', exists_eq_left, true_and, and_true, D.key, D.int.injEq, D.bl.injEq, D.tup.injEq, D.ref.injEq, D.lst.injEq, D.arg.injEq]; exact hR) ?_
          simp only [sSeq, sAsg, sRet, sRetN, sDrop, sIf, sPar, sDPutD, sNext, sBrk, sCont, sRaise, sAugI, sFor, sFreeze, dVar, dC, dOp, dTest, dAnd, dOr, dNot, dAndV, dOrV, dNotV, dIf, dChain, dTup, dLst, dLstM, dNil, dCons, dCB, dCall, dCallK, dRev, dSlice, oNone, oSome, dIsN, dNeg, dDGet, dDict, dPs, dPop, dPopAt, dAppend, dLc, dRgL, dRgT, gRg1, gRg2, iSeqD, iRng1D, iRng2D, tTrue, rdAdd, rdI, rdI0, rdB0, rdIx, rdMul, cdLen, cdAbs, cdInt, cdMin2, cdMax2, cdTup, cdList, cdListM, cdAll, cdAny, cdIsi, dName, dGTup, dGCons, dGNil, dGSub, startD, wipeD, seqOf, listOf, keepOf, List.map_cons, List.map_nil, List.length_cons, List.length_nil, List.cons_append, List.nil_append, Nat.reduceAdd, Nat.reduceSub, List.replicate_succ, List.replicate_zero, List.replicate, List.set_cons_zero, List.set_cons_succ, List.getElem?_cons_zero, List.getElem?_cons_succ, Int.reduceToNat, Int.reduceNeg, Bool.false_eq_true, if_true, if_false, decide_eq_true_eq, Option.some.injEq, exists_eq_left', exists_eq_left, true_and, and_true, D.key, D.int.injEq, D.bl.injEq, D.tup.injEq, D.ref.injEq, D.lst.injEq, D.arg.injEq]
          refine ⟨_, _, rfl, rfl, ?_⟩
          rw [all_id]
          by_cases ca : (xs.all fun x => btw x 0 (↑xs.length - 1)) = true
          · rw [if_neg (by rw [ca]; decide)]
            obtain ⟨ns, rfl, hn⟩ := btw_ints ca
            rw [List.length_map] at hn c2 c12 ⊢
            refine ⟨by omega, by omega, ?_⟩
            have hn' : Lets ns.length ns := fun l hl => by have := hn l hl; omega
            refine lc_map (fun d => match d with | .int k => .bl (decide (ns.getD (ns.getD k.toNat 0).toNat 0 = k)) | d => d) (by unfold rng; rw [List.length_map, List.length_range]; exact sl_ok (by omega)) (fun _ _ _ => trivial) (fun i x μ' R hx hl h => ?_) (fun _ _ => ?_)
            · obtain ⟨hi, rfl⟩ := rng_get hx
              simp only [sSeq, sAsg, sRet, sRetN, sDrop, sIf, sPar, sDPutD, sNext, sBrk, sCont, sRaise, sAugI, sFor, sFreeze, dVar, dC, dOp, dTest, dAnd, dOr, dNot, dAndV, dOrV, dNotV, dIf, dChain, dTup, dLst, dLstM, dNil, dCons, dCB, dCall, dCallK, dRev, dSlice, oNone, oSome, dIsN, dNeg, dDGet, dDict, dPs, dPop, dPopAt, dAppend, dLc, dRgL, dRgT, gRg1, gRg2, iSeqD, iRng1D, iRng2D, tTrue, rdAdd, rdI, rdI0, rdB0, rdIx, rdMul, cdLen, cdAbs, cdInt, cdMin2, cdMax2, cdTup, cdList, cdListM, cdAll, cdAny, cdIsi, dName, dGTup, dGCons, dGNil, dGSub, startD, wipeD, seqOf, listOf, keepOf, List.map_cons, List.map_nil, List.length_cons, List.length_nil, List.cons_append, List.nil_append, Nat.reduceAdd, Nat.reduceSub, List.replicate_succ, List.replicate_zero, List.replicate, List.set_cons_zero, List.set_cons_succ, List.getElem?_cons_zero, List.getElem?_cons_succ, Int.reduceToNat, Int.reduceNeg, Bool.false_eq_true, if_true, if_false, decide_eq_true_eq, Option.some.injEq, exists_eq_left', exists_eq_left, true_and, and_true, D.key, D.int.injEq, D.bl.injEq, D.tup.injEq, D.ref.injEq, D.lst.injEq, D.arg.injEq]
              have e0 : (0 : Int) + (i : Nat) = (i : Nat) := Int.zero_add _
              rw [e0] at h ⊢
              have hin : i < ns.length := by omega
              have a1 : atI (ns.map D.int) (i : Nat) = some (.int (ns.getD i 0)) := by
                have := atI_ints (ns := ns) (i := (i : Nat)) (by omega) (by omega)
                rw [Int.toNat_natCast] at this
                exact this
              have m1 := hn' _ (getD_mem' hin)
              refine ⟨_, a1, _, atI_ints m1.1 m1.2, eq_int ?_⟩
              rw [Bool.xor_false]
              exact h
            · refine ⟨_, (List.range ns.length).map fun k => decide (ns.getD (ns.getD k 0).toNat 0 = (k : Int)), rfl, ?_, fin_self ?_⟩
              · unfold rng
                rw [Int.toNat_natCast, List.map_map, List.map_map]
                refine List.map_congr_left fun k hk => ?_
                simp only [Function.comp_apply, Int.zero_add, Int.toNat_natCast]
              · have e2 : isBackD (.tup (ns.map .int)) = ((List.range ns.length).map fun k => decide (ns.getD (ns.getD k 0).toNat 0 = (k : Int))).all id := by
                  show isBackD (tI ns) = _
                  rw [isBackD_tI, List.all_map]
                  unfold isBackI
                  have h1 : decide (2 ≤ ns.length) = true := by simpa using (by omega : 2 ≤ ns.length)
                  have h2 : decide (ns.length ≤ 12) = true := by simpa using (by omega : ns.length ≤ 12)
                  have h3 : (ns.all fun i => decide (0 ≤ i) && decide (i ≤ (ns.length : Int) - 1)) = true := by
                    simp only [List.all_eq_true, Bool.and_eq_true, decide_eq_true_eq]
                    exact fun l hl => hn l hl
                  rw [h1, h2, h3]
                  rfl
                rw [e2] at k
                exact k
          · rw [if_pos (by simpa using ca)]
            refine fin_self ?_
            have e2 : isBackD (.tup xs) = false := by
              cases eb : isBackD (.tup xs) with
              | false => rfl
              | true =>
                exfalso
                obtain ⟨ns, en, hb⟩ := isBackD_inv eb
                injection en with en
                subst en
                refine ca ?_
                have hb := (backI hb).lets
                rw [List.all_map, List.length_map]
                simp only [List.all_eq_true, Function.comp_apply, btw, Bool.and_eq_true, decide_eq_true_eq]
                exact fun l hl => by have := hb l hl; omega
            rw [e2] at k
            exact k
        · rw [if_pos (by simpa using c12)]
          refine fin_self ?_
          have e2 : isBackD (.tup xs) = false := by
            cases eb : isBackD (.tup xs) with
            | false => rfl
            | true =>
              exfalso
              obtain ⟨ns, en, hb⟩ := isBackD_inv eb
              injection en with en
              subst en
              have := (backI hb).few
              rw [List.length_map] at c12
              omega
          rw [e2] at k
          exact k
      · rw [if_neg c2, if_pos (by rfl)]
        refine fin_self ?_
        have e2 : isBackD (.tup xs) = false := by
          cases eb : isBackD (.tup xs) with
          | false => rfl
          | true =>
            exfalso
            obtain ⟨ns, en, hb⟩ := isBackD_inv eb
            injection en with en
            subst en
            have := (backI hb).two
            rw [List.length_map] at c2
            omega
        rw [e2] at k
        exact k
    | _ => cases e
theorem pu_need_back (ds : List D) (μ : Mu) (Q : DQ) (QE : XQ) (h : sd_need_back ds μ Q QE) : db_need_back { nx := fun _ μ' => fin Q .non μ', rt := fin Q, xe := finX QE } (startD ["back"] ds) μ := by
  obtain ⟨d, rfl, ht, k1, k2⟩ := h
  unfold db_need_back
  simp only [sSeq, sAsg, sRet, sRetN, sDrop, sIf, sPar, sDPutD, sNext, sBrk, sCont, sRaise, sAugI, sFor, sFreeze, dVar, dC, dOp, dTest, dAnd, dOr, dNot, dAndV, dOrV, dNotV, dIf, dChain, dTup, dLst, dLstM, dNil, dCons, dCB, dCall, dCallK, dRev, dSlice, oNone, oSome, dIsN, dNeg, dDGet, dDict, dPs, dPop, dPopAt, dAppend, dLc, dRgL, dRgT, gRg1, gRg2, iSeqD, iRng1D, iRng2D, tTrue, rdAdd, rdI, rdI0, rdB0, rdIx, rdMul, cdLen, cdAbs, cdInt, cdMin2, cdMax2, cdTup, cdList, cdListM, cdAll, cdAny, cdIsi, dName, dGTup, dGCons, dGNil, dGSub, startD, wipeD, seqOf, listOf, keepOf, List.map_cons, List.map_nil, List.length_cons, List.length_nil, List.cons_append, List.nil_append, Nat.reduceAdd, Nat.reduceSub, List.replicate_succ, List.replicate_zero, List.replicate, List.set_cons_zero, List.set_cons_succ, List.getElem?_cons_zero, List.getElem?_cons_succ, Int.reduceToNat, Int.reduceNeg, Bool.false_eq_true, if_true, if_false, decide_eq_true_eq, Option.some.injEq, exists_eq_left', exists_eq_left, true_and, and_true, D.key, D.int.injEq, D.bl.injEq, D.tup.injEq, D.ref.injEq, D.lst.injEq, D.arg.injEq]
  refine ⟨d, rfl, ht, _, rfl, ?_⟩
  cases e : isBackD d with
  | true => rw [if_neg (by decide)]; exact fin_self (k1 e)
  | false => rw [if_pos (by rfl)]; exact finX_self (k2 e)
theorem pu_is_letters (ds : List D) (μ : Mu) (Q : DQ) (QE : XQ) (h : sd_is_letters ds μ Q QE) : db_is_letters { nx := fun _ μ' => fin Q .non μ', rt := fin Q, xe := finX QE } (startD ["back", "thing", "item"] ds) μ := by
  obtain ⟨bs, d, rfl, ⟨⟨t, ht⟩, hx⟩, hz, k⟩ := h
  have k3 := (kit_ty' ht).u
  unfold db_is_letters
  simp only [sSeq, sAsg, sRet, sRetN, sDrop, sIf, sPar, sDPutD, sNext, sBrk, sCont, sRaise, sAugI, sFor, sFreeze, dVar, dC, dOp, dTest, dAnd, dOr, dNot, dAndV, dOrV, dNotV, dIf, dChain, dTup, dLst, dLstM, dNil, dCons, dCB, dCall, dCallK, dRev, dSlice, oNone, oSome, dIsN, dNeg, dDGet, dDict, dPs, dPop, dPopAt, dAppend, dLc, dRgL, dRgT, gRg1, gRg2, iSeqD, iRng1D, iRng2D, tTrue, rdAdd, rdI, rdI0, rdB0, rdIx, rdMul, cdLen, cdAbs, cdInt, cdMin2, cdMax2, cdTup, cdList, cdListM, cdAll, cdAny, cdIsi, dName, dGTup, dGCons, dGNil, dGSub, startD, wipeD, seqOf, listOf, keepOf, List.map_cons, List.map_nil, List.length_cons, List.length_nil, List.cons_append, List.nil_append, Nat.reduceAdd, Nat.reduceSub, List.replicate_succ, List.replicate_zero, List.replicate, List.set_cons_zero, List.set_cons_succ, List.getElem?_cons_zero, List.getElem?_cons_succ, Int.reduceToNat, Int.reduceNeg, Bool.false_eq_true, if_true, if_false, decide_eq_true_eq, Option.some.injEq, exists_eq_left', exists_eq_left, true_and, and_true, D.key, D.int.injEq, D.bl.injEq, D.tup.injEq, D.ref.injEq, D.lst.injEq, D.arg.injEq]
  refine ⟨t, _, ht, k3, ?_⟩
  cases e : isTupD d with
  | false =>
    rw [if_neg (by decide)]
    have : isLet bs.length d = false := by cases d <;> first | rfl | cases e
    rw [this] at k
    exact fin_self k
  | true =>
    rw [if_pos (by rfl)]
    cases d with
    | tup xs =>
      refine ⟨xs, rfl, lc_btw (n := bs.length) (sl_ok (by have := hz xs rfl; omega)) (by simp) (fun _ _ _ => trivial) (hx xs rfl) (fun d μ' R hR => by simp only [sSeq, sAsg, sRet, sRetN, sDrop, sIf, sPar, sDPutD, sNext, sBrk, sCont, sRaise, sAugI, sFor, sFreeze, dVar, dC, dOp, dTest, dAnd, dOr, dNot, dAndV, dOrV, dNotV, dIf, dChain, dTup, dLst, dLstM, dNil, dCons, dCB, dCall, dCallK, dRev, dSlice, oNone, oSome, dIsN, dNeg, dDGet, dDict, dPs, dPop, dPopAt, dAppend, dLc, dRgL, dRgT, gRg1, gRg2, iSeqD, iRng1D, iRng2D, tTrue, rdAdd, rdI, rdI0, rdB0, rdIx, rdMul, cdLen, cdAbs, cdInt, cdMin2, cdMax2, cdTup, cdList, cdListM, cdAll, cdAny, cdIsi, dName, dGTup, dGCons, dGNil, dGSub, startD, wipeD, seqOf, listOf, keepOf, List.map_cons, List.map_nil, List.length_cons, List.length_nil, List.cons_append, List.nil_append, Nat.reduceAdd, Nat.reduceSub, List.replicate_succ, List.replicate_zero, List.replicate, List.set_cons_zero, List.set_cons_succ, List.getElem?_cons_zero, List.getElem?_cons_succ, Int.reduceToNat, Int.reduceNeg, Bool.false_eq_true, if_true, if_false, decide_eq_true_eq, Option.some.injEq, exists_eq_left', exists_eq_left, true_and, and_true, D.key, D.int.injEq, D.bl.injEq, D.tup.injEq, D.ref.injEq, D.lst.injEq, D.arg.injEq]; exact hR) ?_⟩
      refine ⟨_, _, rfl, rfl, fin_self ?_⟩
      rw [all_id]
      exact k
    | _ => cases e
theorem pu_is_word (ds : List D) (μ : Mu) (Q : DQ) (QE : XQ) (h : sd_is_word ds μ Q QE) : db_is_word { nx := fun _ μ' => fin Q .non μ', rt := fin Q, xe := finX QE } (startD ["back", "thing"] ds) μ := by
  obtain ⟨b, d, rfl, hb, k1, k2⟩ := h
  unfold db_is_word
  simp only [sSeq, sAsg, sRet, sRetN, sDrop, sIf, sPar, sDPutD, sNext, sBrk, sCont, sRaise, sAugI, sFor, sFreeze, dVar, dC, dOp, dTest, dAnd, dOr, dNot, dAndV, dOrV, dNotV, dIf, dChain, dTup, dLst, dLstM, dNil, dCons, dCB, dCall, dCallK, dRev, dSlice, oNone, oSome, dIsN, dNeg, dDGet, dDict, dPs, dPop, dPopAt, dAppend, dLc, dRgL, dRgT, gRg1, gRg2, iSeqD, iRng1D, iRng2D, tTrue, rdAdd, rdI, rdI0, rdB0, rdIx, rdMul, cdLen, cdAbs, cdInt, cdMin2, cdMax2, cdTup, cdList, cdListM, cdAll, cdAny, cdIsi, dName, dGTup, dGCons, dGNil, dGSub, startD, wipeD, seqOf, listOf, keepOf, List.map_cons, List.map_nil, List.length_cons, List.length_nil, List.cons_append, List.nil_append, Nat.reduceAdd, Nat.reduceSub, List.replicate_succ, List.replicate_zero, List.replicate, List.set_cons_zero, List.set_cons_succ, List.getElem?_cons_zero, List.getElem?_cons_succ, Int.reduceToNat, Int.reduceNeg, Bool.false_eq_true, if_true, if_false, decide_eq_true_eq, Option.some.injEq, exists_eq_left', exists_eq_left, true_and, and_true, D.key, D.int.injEq, D.bl.injEq, D.tup.injEq, D.ref.injEq, D.lst.injEq, D.arg.injEq]
  refine ⟨b, rfl, hb, fun e => ?_, fun e => finX_self (k2 e)⟩
  obtain ⟨bs, rfl, _⟩ := isBackD_inv e
  obtain ⟨ht, hz, k⟩ := k1 e
  refine ⟨_, d, rfl, ht, hz, _, rfl, ?_⟩
  have el : lenD (tI bs) = ((bs.map D.int).length : Int) := rfl
  rw [el] at k
  cases e2 : isLet ((bs.map D.int).length : Int) d with
  | false =>
    rw [if_neg (by decide)]
    refine fin_self ?_
    unfold isWd at k
    rw [e2, Bool.false_and] at k
    exact k
  | true =>
    rw [if_pos (by rfl)]
    unfold isWd at k
    rw [e2, Bool.true_and] at k
    cases d with
    | tup xs =>
      simp only [sSeq, sAsg, sRet, sRetN, sDrop, sIf, sPar, sDPutD, sNext, sBrk, sCont, sRaise, sAugI, sFor, sFreeze, dVar, dC, dOp, dTest, dAnd, dOr, dNot, dAndV, dOrV, dNotV, dIf, dChain, dTup, dLst, dLstM, dNil, dCons, dCB, dCall, dCallK, dRev, dSlice, oNone, oSome, dIsN, dNeg, dDGet, dDict, dPs, dPop, dPopAt, dAppend, dLc, dRgL, dRgT, gRg1, gRg2, iSeqD, iRng1D, iRng2D, tTrue, rdAdd, rdI, rdI0, rdB0, rdIx, rdMul, cdLen, cdAbs, cdInt, cdMin2, cdMax2, cdTup, cdList, cdListM, cdAll, cdAny, cdIsi, dName, dGTup, dGCons, dGNil, dGSub, startD, wipeD, seqOf, listOf, keepOf, List.map_cons, List.map_nil, List.length_cons, List.length_nil, List.cons_append, List.nil_append, Nat.reduceAdd, Nat.reduceSub, List.replicate_succ, List.replicate_zero, List.replicate, List.set_cons_zero, List.set_cons_succ, List.getElem?_cons_zero, List.getElem?_cons_succ, Int.reduceToNat, Int.reduceNeg, Bool.false_eq_true, if_true, if_false, decide_eq_true_eq, Option.some.injEq, exists_eq_left', exists_eq_left, true_and, and_true, D.key, D.int.injEq, D.bl.injEq, D.tup.injEq, D.ref.injEq, D.lst.injEq, D.arg.injEq]
      exact fin_self k
    | _ => cases e2
theorem pu_need_word (ds : List D) (μ : Mu) (Q : DQ) (QE : XQ) (h : sd_need_word ds μ Q QE) : db_need_word { nx := fun _ μ' => fin Q .non μ', rt := fin Q, xe := finX QE } (startD ["back", "thing"] ds) μ := by
  obtain ⟨b, d, rfl, hb, k1, k2⟩ := h
  unfold db_need_word
  simp only [sSeq, sAsg, sRet, sRetN, sDrop, sIf, sPar, sDPutD, sNext, sBrk, sCont, sRaise, sAugI, sFor, sFreeze, dVar, dC, dOp, dTest, dAnd, dOr, dNot, dAndV, dOrV, dNotV, dIf, dChain, dTup, dLst, dLstM, dNil, dCons, dCB, dCall, dCallK, dRev, dSlice, oNone, oSome, dIsN, dNeg, dDGet, dDict, dPs, dPop, dPopAt, dAppend, dLc, dRgL, dRgT, gRg1, gRg2, iSeqD, iRng1D, iRng2D, tTrue, rdAdd, rdI, rdI0, rdB0, rdIx, rdMul, cdLen, cdAbs, cdInt, cdMin2, cdMax2, cdTup, cdList, cdListM, cdAll, cdAny, cdIsi, dName, dGTup, dGCons, dGNil, dGSub, startD, wipeD, seqOf, listOf, keepOf, List.map_cons, List.map_nil, List.length_cons, List.length_nil, List.cons_append, List.nil_append, Nat.reduceAdd, Nat.reduceSub, List.replicate_succ, List.replicate_zero, List.replicate, List.set_cons_zero, List.set_cons_succ, List.getElem?_cons_zero, List.getElem?_cons_succ, Int.reduceToNat, Int.reduceNeg, Bool.false_eq_true, if_true, if_false, decide_eq_true_eq, Option.some.injEq, exists_eq_left', exists_eq_left, true_and, and_true, D.key, D.int.injEq, D.bl.injEq, D.tup.injEq, D.ref.injEq, D.lst.injEq, D.arg.injEq]
  refine ⟨b, d, rfl, hb, fun e => ?_, fun e => finX_self (k2 e)⟩
  obtain ⟨ht, hz, k3, k4⟩ := k1 e
  refine ⟨ht, hz, _, rfl, ?_⟩
  cases e2 : isWd (lenD b) d with
  | true => rw [if_neg (by decide)]; exact fin_self (k3 e2)
  | false => rw [if_pos (by rfl)]; exact finX_self (k4 e2)
theorem isWd_tI {n : Nat} {ws : List Int} (h : Lets n ws) (hl : ws.length ≤ 200) : isWd n (tI ws) = true := by
  unfold isWd
  rw [Bool.and_eq_true]
  refine ⟨?_, by rw [decide_eq_true_eq]; show ((ws.map D.int).length : Int) ≤ 200; rw [List.length_map]; omega⟩
  show ((ws.map D.int).all fun x => btw x 0 ((n : Int) - 1)) = true
  rw [List.all_map]
  simp only [List.all_eq_true, Function.comp_apply, btw, Bool.and_eq_true, decide_eq_true_eq]
  exact fun l hl => by have := h l hl; omega
theorem isWd_inv {n : Nat} {d : D} (h : isWd n d = true) : ∃ ws, d = tI ws ∧ Lets n ws ∧ ws.length ≤ 200 := by
  unfold isWd at h
  rw [Bool.and_eq_true] at h
  cases d with
  | tup xs =>
    obtain ⟨ns, rfl, hn⟩ := btw_ints h.1
    refine ⟨ns, rfl, fun l hl => by have := hn l hl; omega, ?_⟩
    have := of_decide_eq_true h.2
    have e : lenD (.tup (ns.map .int)) = ((ns.map D.int).length : Int) := rfl
    rw [e, List.length_map] at this
    omega
  | _ => cases h.1
theorem pu_free (ds : List D) (μ : Mu) (Q : DQ) (QE : XQ) (h : sd_free ds μ Q QE) : db_free { nx := fun _ μ' => fin Q .non μ', rt := fin Q, xe := finX QE } (startD ["back", "word"] ds) μ := by
  obtain ⟨b, d, rfl, hb, k1, k2⟩ := h
  unfold db_free
  simp only [sSeq, sAsg, sRet, sRetN, sDrop, sIf, sPar, sDPutD, sNext, sBrk, sCont, sRaise, sAugI, sFor, sFreeze, dVar, dC, dOp, dTest, dAnd, dOr, dNot, dAndV, dOrV, dNotV, dIf, dChain, dTup, dLst, dLstM, dNil, dCons, dCB, dCall, dCallK, dRev, dSlice, oNone, oSome, dIsN, dNeg, dDGet, dDict, dPs, dPop, dPopAt, dAppend, dLc, dRgL, dRgT, gRg1, gRg2, iSeqD, iRng1D, iRng2D, tTrue, rdAdd, rdI, rdI0, rdB0, rdIx, rdMul, cdLen, cdAbs, cdInt, cdMin2, cdMax2, cdTup, cdList, cdListM, cdAll, cdAny, cdIsi, dName, dGTup, dGCons, dGNil, dGSub, startD, wipeD, seqOf, listOf, keepOf, List.map_cons, List.map_nil, List.length_cons, List.length_nil, List.cons_append, List.nil_append, Nat.reduceAdd, Nat.reduceSub, List.replicate_succ, List.replicate_zero, List.replicate, List.set_cons_zero, List.set_cons_succ, List.getElem?_cons_zero, List.getElem?_cons_succ, Int.reduceToNat, Int.reduceNeg, Bool.false_eq_true, if_true, if_false, decide_eq_true_eq, Option.some.injEq, exists_eq_left', exists_eq_left, true_and, and_true, D.key, D.int.injEq, D.bl.injEq, D.tup.injEq, D.ref.injEq, D.lst.injEq, D.arg.injEq]
  refine ⟨b, d, rfl, hb, fun e => ?_, fun e => finX_self (k2 e)⟩
  obtain ⟨ht, hz, k3, k4⟩ := k1 e
  refine ⟨ht, hz, fun e2 => ?_, fun e2 => finX_self (k4 e2)⟩
  obtain ⟨bs, rfl, _⟩ := isBackD_inv e
  have el : lenD (tI bs) = ((bs.length : Nat) : Int) := by show ((bs.map D.int).length : Int) = _; rw [List.length_map]
  rw [el] at e2
  obtain ⟨ws, rfl, hw, hl⟩ := isWd_inv e2
  exact ⟨bs, ws, rfl, hw, by omega, fin_self (k3 bs ws rfl rfl hw hl)⟩
theorem pu_undone (ds : List D) (μ : Mu) (Q : DQ) (QE : XQ) (h : sd_undone ds μ Q QE) : db_undone { nx := fun _ μ' => fin Q .non μ', rt := fin Q, xe := finX QE } (startD ["back", "word"] ds) μ := by
  obtain ⟨b, d, rfl, hb, k1, k2⟩ := h
  unfold db_undone
  simp only [sSeq, sAsg, sRet, sRetN, sDrop, sIf, sPar, sDPutD, sNext, sBrk, sCont, sRaise, sAugI, sFor, sFreeze, dVar, dC, dOp, dTest, dAnd, dOr, dNot, dAndV, dOrV, dNotV, dIf, dChain, dTup, dLst, dLstM, dNil, dCons, dCB, dCall, dCallK, dRev, dSlice, oNone, oSome, dIsN, dNeg, dDGet, dDict, dPs, dPop, dPopAt, dAppend, dLc, dRgL, dRgT, gRg1, gRg2, iSeqD, iRng1D, iRng2D, tTrue, rdAdd, rdI, rdI0, rdB0, rdIx, rdMul, cdLen, cdAbs, cdInt, cdMin2, cdMax2, cdTup, cdList, cdListM, cdAll, cdAny, cdIsi, dName, dGTup, dGCons, dGNil, dGSub, startD, wipeD, seqOf, listOf, keepOf, List.map_cons, List.map_nil, List.length_cons, List.length_nil, List.cons_append, List.nil_append, Nat.reduceAdd, Nat.reduceSub, List.replicate_succ, List.replicate_zero, List.replicate, List.set_cons_zero, List.set_cons_succ, List.getElem?_cons_zero, List.getElem?_cons_succ, Int.reduceToNat, Int.reduceNeg, Bool.false_eq_true, if_true, if_false, decide_eq_true_eq, Option.some.injEq, exists_eq_left', exists_eq_left, true_and, and_true, D.key, D.int.injEq, D.bl.injEq, D.tup.injEq, D.ref.injEq, D.lst.injEq, D.arg.injEq]
  refine ⟨b, d, rfl, hb, fun e => ?_, fun e => finX_self (k2 e)⟩
  obtain ⟨ht, hz, k3, k4⟩ := k1 e
  refine ⟨ht, hz, fun e2 => ?_, fun e2 => finX_self (k4 e2)⟩
  obtain ⟨bs, rfl, _⟩ := isBackD_inv e
  have el : lenD (tI bs) = ((bs.length : Nat) : Int) := by show ((bs.map D.int).length : Int) = _; rw [List.length_map]
  rw [el] at e2
  obtain ⟨ws, rfl, hw, hl⟩ := isWd_inv e2
  exact ⟨bs, ws, rfl, hw, by omega, fin_self (k3 bs ws rfl rfl hw hl)⟩
theorem pu_undone_of (ds : List D) (μ : Mu) (Q : DQ) (QE : XQ) (h : sd_undone_of ds μ Q QE) : db_undone_of { nx := fun _ μ' => fin Q .non μ', rt := fin Q, xe := finX QE } (startD ["back", "word", "letter"] ds) μ := by
  obtain ⟨bs, ws, rfl, hw, hl, k⟩ := h
  unfold db_undone_of
  simp only [sSeq, sAsg, sRet, sRetN, sDrop, sIf, sPar, sDPutD, sNext, sBrk, sCont, sRaise, sAugI, sFor, sFreeze, dVar, dC, dOp, dTest, dAnd, dOr, dNot, dAndV, dOrV, dNotV, dIf, dChain, dTup, dLst, dLstM, dNil, dCons, dCB, dCall, dCallK, dRev, dSlice, oNone, oSome, dIsN, dNeg, dDGet, dDict, dPs, dPop, dPopAt, dAppend, dLc, dRgL, dRgT, gRg1, gRg2, iSeqD, iRng1D, iRng2D, tTrue, rdAdd, rdI, rdI0, rdB0, rdIx, rdMul, cdLen, cdAbs, cdInt, cdMin2, cdMax2, cdTup, cdList, cdListM, cdAll, cdAny, cdIsi, dName, dGTup, dGCons, dGNil, dGSub, startD, wipeD, seqOf, listOf, keepOf, List.map_cons, List.map_nil, List.length_cons, List.length_nil, List.cons_append, List.nil_append, Nat.reduceAdd, Nat.reduceSub, List.replicate_succ, List.replicate_zero, List.replicate, List.set_cons_zero, List.set_cons_succ, List.getElem?_cons_zero, List.getElem?_cons_succ, Int.reduceToNat, Int.reduceNeg, Bool.false_eq_true, if_true, if_false, decide_eq_true_eq, Option.some.injEq, exists_eq_left', exists_eq_left, true_and, and_true, D.key, D.int.injEq, D.bl.injEq, D.tup.injEq, D.ref.injEq, D.lst.injEq, D.arg.injEq, ← List.map_reverse]
  refine lc_map (fun d => match d with | .int l => .int (bs.getD l.toNat 0) | d => d) (sl_ok (by rw [List.length_map, List.length_reverse]; omega)) (fun _ _ _ => trivial) (fun i x μ' R hx hl h => ?_) (fun _ _ => ?_)
  · have hm := List.mem_of_getElem? hx
    obtain ⟨n, hn, rfl⟩ := mem_ints hm
    have := hw n (List.mem_reverse.mp hn)
    simp only [sSeq, sAsg, sRet, sRetN, sDrop, sIf, sPar, sDPutD, sNext, sBrk, sCont, sRaise, sAugI, sFor, sFreeze, dVar, dC, dOp, dTest, dAnd, dOr, dNot, dAndV, dOrV, dNotV, dIf, dChain, dTup, dLst, dLstM, dNil, dCons, dCB, dCall, dCallK, dRev, dSlice, oNone, oSome, dIsN, dNeg, dDGet, dDict, dPs, dPop, dPopAt, dAppend, dLc, dRgL, dRgT, gRg1, gRg2, iSeqD, iRng1D, iRng2D, tTrue, rdAdd, rdI, rdI0, rdB0, rdIx, rdMul, cdLen, cdAbs, cdInt, cdMin2, cdMax2, cdTup, cdList, cdListM, cdAll, cdAny, cdIsi, dName, dGTup, dGCons, dGNil, dGSub, startD, wipeD, seqOf, listOf, keepOf, List.map_cons, List.map_nil, List.length_cons, List.length_nil, List.cons_append, List.nil_append, Nat.reduceAdd, Nat.reduceSub, List.replicate_succ, List.replicate_zero, List.replicate, List.set_cons_zero, List.set_cons_succ, List.getElem?_cons_zero, List.getElem?_cons_succ, Int.reduceToNat, Int.reduceNeg, Bool.false_eq_true, if_true, if_false, decide_eq_true_eq, Option.some.injEq, exists_eq_left', exists_eq_left, true_and, and_true, D.key, D.int.injEq, D.bl.injEq, D.tup.injEq, D.ref.injEq, D.lst.injEq, D.arg.injEq]
    exact ⟨_, atI_ints this.1 this.2, h⟩
  · simp only [sSeq, sAsg, sRet, sRetN, sDrop, sIf, sPar, sDPutD, sNext, sBrk, sCont, sRaise, sAugI, sFor, sFreeze, dVar, dC, dOp, dTest, dAnd, dOr, dNot, dAndV, dOrV, dNotV, dIf, dChain, dTup, dLst, dLstM, dNil, dCons, dCB, dCall, dCallK, dRev, dSlice, oNone, oSome, dIsN, dNeg, dDGet, dDict, dPs, dPop, dPopAt, dAppend, dLc, dRgL, dRgT, gRg1, gRg2, iSeqD, iRng1D, iRng2D, tTrue, rdAdd, rdI, rdI0, rdB0, rdIx, rdMul, cdLen, cdAbs, cdInt, cdMin2, cdMax2, cdTup, cdList, cdListM, cdAll, cdAny, cdIsi, dName, dGTup, dGCons, dGNil, dGSub, startD, wipeD, seqOf, listOf, keepOf, List.map_cons, List.map_nil, List.length_cons, List.length_nil, List.cons_append, List.nil_append, Nat.reduceAdd, Nat.reduceSub, List.replicate_succ, List.replicate_zero, List.replicate, List.set_cons_zero, List.set_cons_succ, List.getElem?_cons_zero, List.getElem?_cons_succ, Int.reduceToNat, Int.reduceNeg, Bool.false_eq_true, if_true, if_false, decide_eq_true_eq, Option.some.injEq, exists_eq_left', exists_eq_left, true_and, and_true, D.key, D.int.injEq, D.bl.injEq, D.tup.injEq, D.ref.injEq, D.lst.injEq, D.arg.injEq, m_int']
    refine fin_self ?_
    unfold undoI at k
    exact k
theorem pu_free_of (ds : List D) (μ : Mu) (Q : DQ) (QE : XQ) (h : sd_free_of ds μ Q QE) : db_free_of { nx := fun _ μ' => fin Q .non μ', rt := fin Q, xe := finX QE } (startD ["back", "word", "found", "letter"] ds) μ := by
  obtain ⟨bs, ws, rfl, hw, hl, k⟩ := h
  unfold db_free_of
  simp only [sSeq, sAsg, sRet, sRetN, sDrop, sIf, sPar, sDPutD, sNext, sBrk, sCont, sRaise, sAugI, sFor, sFreeze, dVar, dC, dOp, dTest, dAnd, dOr, dNot, dAndV, dOrV, dNotV, dIf, dChain, dTup, dLst, dLstM, dNil, dCons, dCB, dCall, dCallK, dRev, dSlice, oNone, oSome, dIsN, dNeg, dDGet, dDict, dPs, dPop, dPopAt, dAppend, dLc, dRgL, dRgT, gRg1, gRg2, iSeqD, iRng1D, iRng2D, tTrue, rdAdd, rdI, rdI0, rdB0, rdIx, rdMul, cdLen, cdAbs, cdInt, cdMin2, cdMax2, cdTup, cdList, cdListM, cdAll, cdAny, cdIsi, dName, dGTup, dGCons, dGNil, dGSub, startD, wipeD, seqOf, listOf, keepOf, List.map_cons, List.map_nil, List.length_cons, List.length_nil, List.cons_append, List.nil_append, Nat.reduceAdd, Nat.reduceSub, List.replicate_succ, List.replicate_zero, List.replicate, List.set_cons_zero, List.set_cons_succ, List.getElem?_cons_zero, List.getElem?_cons_succ, Int.reduceToNat, Int.reduceNeg, Bool.false_eq_true, if_true, if_false, decide_eq_true_eq, Option.some.injEq, exists_eq_left', exists_eq_left, true_and, and_true, D.key, D.int.injEq, D.bl.injEq, D.tup.injEq, D.ref.injEq, D.lst.injEq, D.arg.injEq]
  refine ⟨sl_ok (by decide), fun p hp => ?_⟩
  refine ⟨fun i ρ' μ' => ∃ lt, ρ' = [some (tI bs), some (tI ws), some (.ref p), lt] ∧ μ' = mset μ p (.lst ((freeI bs (ws.take i)).map .int)) ∧ (freeI bs (ws.take i)).length ≤ i, ⟨none, rfl, rfl, Nat.le_refl _⟩, fun _ _ _ _ _ => trivial, fun i d ρ' μ' hd ⟨lt, e1, e2, e3⟩ => ?_, fun ρ' μ' ⟨lt, e1, e2, e3⟩ => ?_⟩
  · have hil : i < ws.length := by
      have := (List.getElem?_eq_some_iff.mp hd).1
      rw [List.length_map] at this
      exact this
    obtain ⟨n, hn, rfl⟩ := ints_get' hd
    have hb := hw n (List.mem_of_getElem? hn)
    have step : freeI bs (ws.take (i + 1)) = frStep bs (freeI bs (ws.take i)) n := by
      unfold freeI
      rw [List.take_add_one, hn]
      simp
    subst e1 e2
    generalize freeI bs (ws.take i) = st at step e3 ⊢
    simp only [sSeq, sAsg, sRet, sRetN, sDrop, sIf, sPar, sDPutD, sNext, sBrk, sCont, sRaise, sAugI, sFor, sFreeze, dVar, dC, dOp, dTest, dAnd, dOr, dNot, dAndV, dOrV, dNotV, dIf, dChain, dTup, dLst, dLstM, dNil, dCons, dCB, dCall, dCallK, dRev, dSlice, oNone, oSome, dIsN, dNeg, dDGet, dDict, dPs, dPop, dPopAt, dAppend, dLc, dRgL, dRgT, gRg1, gRg2, iSeqD, iRng1D, iRng2D, tTrue, rdAdd, rdI, rdI0, rdB0, rdIx, rdMul, cdLen, cdAbs, cdInt, cdMin2, cdMax2, cdTup, cdList, cdListM, cdAll, cdAny, cdIsi, dName, dGTup, dGCons, dGNil, dGSub, startD, wipeD, seqOf, listOf, keepOf, List.map_cons, List.map_nil, List.length_cons, List.length_nil, List.cons_append, List.nil_append, Nat.reduceAdd, Nat.reduceSub, List.replicate_succ, List.replicate_zero, List.replicate, List.set_cons_zero, List.set_cons_succ, List.getElem?_cons_zero, List.getElem?_cons_succ, Int.reduceToNat, Int.reduceNeg, Bool.false_eq_true, if_true, if_false, decide_eq_true_eq, Option.some.injEq, exists_eq_left', exists_eq_left, true_and, and_true, D.key, D.int.injEq, D.bl.injEq, D.tup.injEq, D.ref.injEq, D.lst.injEq, D.arg.injEq]
    refine ⟨sl_ok (by decide), eq_nil (xs := st.map .int) (by simp only [listOf, mset_same]) ints_ok ⟨_, rfl, ?_⟩⟩
    by_cases c : st = []
    · subst c
      rw [if_neg (by simp)]
      refine ⟨p, _, rfl, mset_same, _, mset_same, by rw [List.length_map]; exact sl_lt (by simp), some (.int n), rfl, ?_, ?_⟩
      · rw [mset_mset, step]
        unfold frStep
        rw [if_neg (by simp)]
        rfl
      · rw [step]
        unfold frStep
        rw [if_neg (by simp)]
        simp
    · rw [if_pos (by simp [c])]
      have hpos := List.length_pos_iff.mpr c
      have a1 : atI (st.map D.int) (-1) = some (.int (st.getD (st.length - 1) 0)) := by
        unfold atI ixN
        rw [if_neg (by decide), if_pos (by rw [List.length_map]; omega)]
        have : ((-1 : Int) + ((st.map D.int).length : Int)).toNat = st.length - 1 := by rw [List.length_map]; omega
        show (st.map D.int)[((-1 : Int) + ((st.map D.int).length : Int)).toNat]? = _
        rw [this, List.getElem?_map, List.getElem?_eq_getElem (by omega), List.getD_eq_getElem?_getD, List.getElem?_eq_getElem (by omega)]
        rfl
      refine ⟨st.map .int, by simp only [mset_same], _, a1, _, atI_ints hb.1 hb.2, eq_int ⟨_, rfl, ?_⟩⟩
      rw [Bool.xor_false]
      by_cases c2 : st.getD (st.length - 1) 0 = bs.getD n.toNat 0
      · rw [if_pos (decide_eq_true c2)]
        have hs : frStep bs st n = st.dropLast := by unfold frStep; rw [if_pos ⟨c, c2⟩]
        refine ⟨p, _, .int (st.getD (st.length - 1) 0), rfl, mset_same, ?_, some (.int n), rfl, ?_, ?_⟩
        · have := a1
          unfold atI ixN at this
          rw [if_neg (by decide), if_pos (by rw [List.length_map]; omega)] at this
          have e : ((-1 : Int) + ((st.map D.int).length : Int)).toNat = (st.map D.int).length - 1 := by omega
          have this : (st.map D.int)[((-1 : Int) + ((st.map D.int).length : Int)).toNat]? = some (.int (st.getD (st.length - 1) 0)) := this
          rw [e] at this
          exact this
        · rw [mset_mset, step, hs, List.map_dropLast]
        · rw [step, hs, List.length_dropLast]; omega
      · rw [if_neg (by simpa using c2)]
        have hs : frStep bs st n = st ++ [n] := by unfold frStep; rw [if_neg (fun h => c2 h.2)]
        refine ⟨p, _, rfl, mset_same, _, mset_same, by rw [List.length_map]; exact sl_lt (by omega), some (.int n), rfl, ?_, ?_⟩
        · rw [mset_mset, step, hs, List.map_append]
          rfl
        · rw [step, hs, List.length_append]
          simp
          omega
  · subst e1 e2
    simp only [sSeq, sAsg, sRet, sRetN, sDrop, sIf, sPar, sDPutD, sNext, sBrk, sCont, sRaise, sAugI, sFor, sFreeze, dVar, dC, dOp, dTest, dAnd, dOr, dNot, dAndV, dOrV, dNotV, dIf, dChain, dTup, dLst, dLstM, dNil, dCons, dCB, dCall, dCallK, dRev, dSlice, oNone, oSome, dIsN, dNeg, dDGet, dDict, dPs, dPop, dPopAt, dAppend, dLc, dRgL, dRgT, gRg1, gRg2, iSeqD, iRng1D, iRng2D, tTrue, rdAdd, rdI, rdI0, rdB0, rdIx, rdMul, cdLen, cdAbs, cdInt, cdMin2, cdMax2, cdTup, cdList, cdListM, cdAll, cdAny, cdIsi, dName, dGTup, dGCons, dGNil, dGSub, startD, wipeD, seqOf, listOf, keepOf, List.map_cons, List.map_nil, List.length_cons, List.length_nil, List.cons_append, List.nil_append, Nat.reduceAdd, Nat.reduceSub, List.replicate_succ, List.replicate_zero, List.replicate, List.set_cons_zero, List.set_cons_succ, List.getElem?_cons_zero, List.getElem?_cons_succ, Int.reduceToNat, Int.reduceNeg, Bool.false_eq_true, if_true, if_false, decide_eq_true_eq, Option.some.injEq, exists_eq_left', exists_eq_left, true_and, and_true, D.key, D.int.injEq, D.bl.injEq, D.tup.injEq, D.ref.injEq, D.lst.injEq, D.arg.injEq]
    refine ⟨(freeI bs (ws.take (ws.map D.int).length)).map .int, by simp only [mset_same], fin_less (Le.new hp) ?_⟩
    have e : ws.take (ws.map D.int).length = ws := by rw [List.length_map, List.take_length]
    rw [e]
    exact k
end DL

/-! Drawn backs and words. -/
namespace DL
open PySem PySem.Spec PyProof.Rows L2
def sd__law_back : SpD := fun ds μ Q _ => ∃ q l, ds = [.ref q] ∧ DrawAt μ q l ∧ ∀ bs μ', BackI bs → bs.length ≤ 6 → DrawAt μ' q l → Keep q l μ μ' → Q (tI bs) μ'
def sd__law_word : SpD := fun ds μ Q _ => ∃ q l bs most, ds = [.ref q, .tup bs, .int most] ∧ 0 < bs.length ∧ bs.length < 100000 ∧ 0 ≤ most ∧ most < 50000 ∧ DrawAt μ q l ∧ ∀ ws μ', (ws.length : Int) ≤ most → Lets bs.length ws → DrawAt μ' q l → Keep q l μ μ' → Q (tI ws) μ'
/-- slots: 0 draw, 1 line, 2 many, 3 left_here, 4 found, 5 one, 6 other -/
def db__law_back : DS :=
  (sSeq (sPar 1 2 (dCons (dLstM dNil) (dCons (dOp rdAdd (dC (.int 2)) (dCall sd__law_take (dCons (dVar 0) (dCons (dC (.int 5)) dNil)))) dNil)))
    (sSeq (sAsg (dCall sd__law_shuffled (dCons (dVar 0) (dCons (dRgL false (gRg1 (dVar 2))) dNil))) (dName 3))
    (sSeq (sAsg (dOp (rdMul true) (dLstM (dCons (dC (.int 0)) dNil)) (dVar 2)) (dName 4))
    (sSeq (sWhile (dTest (dOp (rdEq true) (dVar 3) (dLst dNil))) (sSeq (sAsg (dPop (dVar 3)) (dName 5))
    (sSeq (sAsg (dIf (dAnd (dTest (dOp (rdEq true) (dVar 3) (dLst dNil))) (dTest (dOp (rdB0 fun i j => decide (j < i)) (dCall sd__law_take (dCons (dVar 0) (dCons (dC (.int 4)) dNil))) (dC (.int 0))))) (dPop (dVar 3)) (dVar 5)) (dName 6))
    (sAsg (dTup (dCons (dVar 6) (dCons (dVar 5) dNil))) (dGTup 2 (dGCons (dGSub (dVar 4) (dVar 5)) (dGCons (dGSub (dVar 4) (dVar 6)) dGNil)))))))
    (sRet (dCB cdTup (dCons (dVar 4) dNil)))))))
/-- slots: 0 draw, 1 back_here, 2 most, 3 k -/
def db__law_word : DS :=
  (sRet (dCB cdTup (dCons (dLc false (iRng1D (dCall sd__law_take (dCons (dVar 0) (dCons (dOp rdAdd (dVar 2) (dC (.int 1))) dNil)))) (dName 3) tTrue (dCall sd__law_take (dCons (dVar 0) (dCons (dCB cdLen (dCons (dVar 1) dNil)) dNil))) [3]) dNil)))
structure BkInv (n : Nat) (fs ls : List Int) : Prop where
  len : fs.length = n
  nd : ls.Nodup
  sub : ∀ x ∈ ls, 0 ≤ x ∧ x < n
  ok : ∀ k : Nat, k < n → (k : Int) ∉ ls → 0 ≤ fs.getD k 0 ∧ fs.getD k 0 < n ∧ fs.getD k 0 ∉ ls ∧ fs.getD (fs.getD k 0).toNat 0 = k
theorem getD_set {fs : List Int} {i j : Nat} {v : Int} (h : i < fs.length) : (fs.set i v).getD j 0 = if i = j then v else fs.getD j 0 := by
  rw [List.getD_eq_getElem?_getD, List.getD_eq_getElem?_getD, List.getElem?_set]
  by_cases c : i = j
  · rw [if_pos c, if_pos c, if_pos h]; rfl
  · rw [if_neg c, if_neg c]
theorem BkInv.step {n : Nat} {fs ls ls' : List Int} {one other : Int} (I : BkInv n fs ls) (h1 : one ∈ ls) (h2 : other ∈ ls) (nd : ls'.Nodup) (hs : ∀ x, x ∈ ls' ↔ x ∈ ls ∧ x ≠ one ∧ x ≠ other) :
    BkInv n ((fs.set one.toNat other).set other.toNat one) ls' := by
  have o1 := I.sub one h1
  have o2 := I.sub other h2
  have l1 : one.toNat < fs.length := by rw [I.len]; omega
  have l2 : other.toNat < (fs.set one.toNat other).length := by rw [List.length_set, I.len]; omega
  have at_ : ∀ j : Nat, ((fs.set one.toNat other).set other.toNat one).getD j 0 = if other.toNat = j then one else if one.toNat = j then other else fs.getD j 0 := fun j => by
    rw [getD_set l2, getD_set l1]
  refine ⟨by simp [I.len], nd, fun x hx => I.sub x ((hs x).mp hx).1, fun k hk hn => ?_⟩
  rw [at_]
  by_cases c2 : other.toNat = k
  · rw [if_pos c2]
    refine ⟨o1.1, o1.2, fun h => ((hs one).mp h).2.1 rfl, ?_⟩
    rw [at_]
    by_cases c3 : other.toNat = one.toNat
    · rw [if_pos c3]; omega
    · rw [if_neg c3, if_pos rfl]; omega
  · rw [if_neg c2]
    by_cases c1 : one.toNat = k
    · rw [if_pos c1]
      refine ⟨o2.1, o2.2, fun h => ((hs other).mp h).2.2 rfl, ?_⟩
      rw [at_, if_pos rfl]; omega
    · rw [if_neg c1]
      have hk' : (k : Int) ∉ ls := fun h => hn ((hs _).mpr ⟨h, by omega, by omega⟩)
      obtain ⟨a1, a2, a3, a4⟩ := I.ok k hk hk'
      refine ⟨a1, a2, fun h => a3 ((hs _).mp h).1, ?_⟩
      rw [at_, if_neg, if_neg]
      · exact a4
      · intro e
        have : one = fs.getD k 0 := by omega
        exact a3 (this ▸ h1)
      · intro e
        have : other = fs.getD k 0 := by omega
        exact a3 (this ▸ h2)
theorem BkInv.back {n : Nat} {fs : List Int} (I : BkInv n fs []) (h2 : 2 ≤ n) (h12 : n ≤ 12) : BackI fs := by
  refine ⟨by rw [I.len]; exact h2, by rw [I.len]; exact h12, fun l hl => ?_, fun k hk => (I.ok k (by rw [← I.len]; exact hk) (by simp)).2.2.2⟩
  obtain ⟨i, hi⟩ := List.getElem?_of_mem hl
  have hlt : i < fs.length := (List.getElem?_eq_some_iff.mp hi).1
  have := I.ok i (by rw [← I.len]; exact hlt) (by simp)
  rw [List.getD_eq_getElem?_getD, hi] at this
  rw [I.len]
  exact ⟨this.1, this.2.1⟩
theorem rng_ints (n : Nat) : rng 0 n = ((List.range n).map fun i => ((0 : Int) + (i : Nat))).map D.int := by
  unfold rng
  rw [List.map_map]
  rfl
theorem perm_ints : ∀ {ys : List D} {ns : List Int}, ys.Perm (ns.map D.int) → ∃ ms : List Int, ys = ms.map D.int ∧ ms.Perm ns := by
  intro ys ns h
  have hy : ∀ y ∈ ys, ∃ i, y = D.int i := fun y hy => by
    obtain ⟨i, _, e⟩ := mem_ints (h.mem_iff.mp hy)
    exact ⟨i, e⟩
  let toI : D → Int := fun d => match d with | .int i => i | _ => 0
  refine ⟨ys.map toI, ?_, ?_⟩
  · rw [List.map_map]
    have : ∀ y ∈ ys, (D.int ∘ toI) y = y := fun y hm => by
      obtain ⟨i, rfl⟩ := hy y hm
      rfl
    rw [List.map_congr_left this, List.map_id']
  · have := h.map toI
    rw [List.map_map] at this
    have e : (toI ∘ D.int) = id := by funext i; rfl
    rw [e, List.map_id] at this
    exact this
theorem last_split {ns : List Int} (h : ns ≠ []) : ∃ l0 x, ns = l0 ++ [x] := ⟨ns.dropLast, ns.getLast h, (List.dropLast_concat_getLast h).symm⟩
theorem flat_rep : ∀ n : Nat, (List.replicate n [D.int 0]).flatten = (List.replicate n (0 : Int)).map D.int
  | 0 => rfl
  | n + 1 => by rw [List.replicate_succ, List.flatten_cons, flat_rep n, List.replicate_succ]; rfl
theorem nodup_map {α β : Type} {f : α → β} (hf : ∀ a b, f a = f b → a = b) : ∀ {l : List α}, l.Nodup → (l.map f).Nodup
  | [], _ => List.nodup_nil
  | a :: l, h => by
    rw [List.nodup_cons] at h
    rw [List.map_cons, List.nodup_cons]
    refine ⟨fun hm => ?_, nodup_map hf h.2⟩
    obtain ⟨b, hb, e⟩ := List.mem_map.mp hm
    exact h.1 (hf _ _ e ▸ hb)
theorem pu__law_back (ds : List D) (μ : Mu) (Q : DQ) (QE : XQ) (h : sd__law_back ds μ Q QE) : db__law_back { nx := fun _ μ' => fin Q .non μ', rt := fin Q, xe := finX QE } (startD ["draw", "line", "many", "left_here", "found", "one", "other"] ds) μ := by
  obtain ⟨q, l, rfl, D0, k⟩ := h
  unfold db__law_back
  simp only [sSeq, sAsg, sRet, sRetN, sDrop, sIf, sPar, sDPutD, sNext, sBrk, sCont, sRaise, sAugI, sFor, sFreeze, dVar, dC, dOp, dTest, dAnd, dOr, dNot, dAndV, dOrV, dNotV, dIf, dChain, dTup, dLst, dLstM, dNil, dCons, dCB, dCall, dCallK, dRev, dSlice, oNone, oSome, dIsN, dNeg, dDGet, dDict, dPs, dPop, dPopAt, dAppend, dLc, dRgL, dRgT, gRg1, gRg2, iSeqD, iRng1D, iRng2D, tTrue, rdAdd, rdI, rdI0, rdB0, rdIx, rdMul, cdLen, cdAbs, cdInt, cdMin2, cdMax2, cdTup, cdList, cdListM, cdAll, cdAny, cdIsi, dName, dGTup, dGCons, dGNil, dGSub, startD, wipeD, seqOf, listOf, keepOf, List.map_cons, List.map_nil, List.length_cons, List.length_nil, List.cons_append, List.nil_append, Nat.reduceAdd, Nat.reduceSub, List.replicate_succ, List.replicate_zero, List.replicate, List.set_cons_zero, List.set_cons_succ, List.getElem?_cons_zero, List.getElem?_cons_succ, Int.reduceToNat, Int.reduceNeg, Bool.false_eq_true, if_true, if_false, decide_eq_true_eq, Option.some.injEq, exists_eq_left', exists_eq_left, true_and, and_true, D.key, D.int.injEq, D.bl.injEq, D.tup.injEq, D.ref.injEq, D.lst.injEq, D.arg.injEq]
  refine ⟨sl_ok (by decide), fun p0 n0 => ?_⟩
  have D0' := D0.mset (m := .lst []) (D0.q n0) (D0.l n0)
  refine ⟨q, l, 5, rfl, D0', by decide, by decide, fun i μ1 i0 i1 D1 K1 => ?_⟩
  have K1' : Keep q l μ μ1 := (Keep.rfl'.mset n0).trans K1
  refine ⟨⟨by omega, by omega, by omega, by omega, by omega⟩, ?_⟩
  obtain ⟨n, hn⟩ : ∃ n : Nat, (2 + i - 0).toNat = n := ⟨_, rfl⟩
  have n2 : 2 ≤ n := by omega
  have n6 : n ≤ 6 := by omega
  have en : 2 + i = (n : Int) := by omega
  rw [hn, rng_ints]
  refine ⟨q, l, _, _, rfl, .inl rfl, by simp; omega, ints_ok, D1, fun p1 ys μ2 pm f1 a1 D2 K2 => ?_⟩
  obtain ⟨ms, rfl, pm2⟩ := perm_ints pm
  refine ⟨sl_ok (by decide), fun p3 n3 => ?_⟩
  refine ⟨[.int 0], mset_same, by omega, by omega, by rw [en, Int.toNat_natCast]; exact sl_ok (by simp; omega), fun p4 n4 => ?_⟩
  have n43 : p4 ≠ p3 := fun z => by rw [z, mset_same] at n4; cases n4
  have n4' : μ2 p4 = none := by rw [mset_ne n43] at n4; exact n4
  have ne14 : p1 ≠ p4 := fun z => by rw [z, n4'] at a1; cases a1
  have ne13 : p1 ≠ p3 := fun z => by rw [z, n3] at a1; cases a1
  have er : (List.replicate (2 + i).toNat [D.int 0]).flatten = (List.replicate n (0 : Int)).map D.int := by
    rw [en, Int.toNat_natCast]
    exact flat_rep n
  rw [er]
  have q1 := D1.q f1
  have l1 := D1.l f1
  have D3 : DrawAt (mset (mset μ2 p3 (.lst [.int 0])) p4 (.lst ((List.replicate n (0 : Int)).map D.int))) q l := (D2.mset (D2.q n3) (D2.l n3)).mset (D2.q n4') (D2.l n4')
  have q4 := D2.q n4'
  have l4 := D2.l n4'
  -- what was kept at p1's place before is nothing that the caller knows
  have K3 : ∀ a m, a ≠ q → a ≠ l → μ a = some m → a ≠ p1 ∧ a ≠ p4 ∧ mset (mset μ2 p3 (.lst [.int 0])) p4 (.lst ((List.replicate n (0 : Int)).map D.int)) a = some m := fun a m h1 h2 e => by
    have e1 := K1' a m h1 h2 e
    have e2 := K2 a m h1 h2 e1
    have c1 : a ≠ p1 := fun z => by rw [z, f1] at e1; cases e1
    have c3 : a ≠ p3 := fun z => by rw [z, n3] at e2; cases e2
    have c4 : a ≠ p4 := fun z => by rw [z, n4'] at e2; cases e2
    exact ⟨c1, c4, by rw [mset_ne c4, mset_ne c3]; exact e2⟩
  unfold sWhile
  refine ⟨fun m ρ' μ' => ∃ (o1 o2 : Option D) (ls fs : List Int), m = ls.length ∧ ρ' = [some (.ref q), some (.ref p0), some (.int (2 + i)), some (.ref p1), some (.ref p4), o1, o2] ∧ μ' p1 = some (.lst (ls.map .int)) ∧ μ' p4 = some (.lst (fs.map .int)) ∧ BkInv n fs ls ∧ DrawAt μ' q l ∧
    (∀ a m, a ≠ q → a ≠ l → μ a = some m → a ≠ p1 ∧ a ≠ p4 ∧ μ' a = some m), ⟨_, none, none, ms, List.replicate n 0, rfl, rfl, ?_, mset_same, ⟨by simp, ?_, ?_, ?_⟩, D3, K3⟩, ?_⟩
  · rw [mset_ne ne14, mset_ne ne13]; exact a1
  · refine (pm2.nodup_iff).mpr ?_
    exact nodup_map (f := fun (i : Nat) => (0 : Int) + i) (fun a b (h : 0 + (a : Int) = 0 + (b : Int)) => by omega) List.nodup_range
  · intro x hx
    obtain ⟨j, hj, rfl⟩ := List.mem_map.mp (pm2.mem_iff.mp hx)
    have := List.mem_range.mp hj
    omega
  · intro j hj hnot
    exact absurd (pm2.mem_iff.mpr (List.mem_map.mpr ⟨j, List.mem_range.mpr hj, by omega⟩)) hnot
  rintro m ρ' μ' ⟨o1, o2, ls, fs, rfl, rfl, b1, b4, I, D4, K4⟩
  simp only [sSeq, sAsg, sRet, sRetN, sDrop, sIf, sPar, sDPutD, sNext, sBrk, sCont, sRaise, sAugI, sFor, sFreeze, dVar, dC, dOp, dTest, dAnd, dOr, dNot, dAndV, dOrV, dNotV, dIf, dChain, dTup, dLst, dLstM, dNil, dCons, dCB, dCall, dCallK, dRev, dSlice, oNone, oSome, dIsN, dNeg, dDGet, dDict, dPs, dPop, dPopAt, dAppend, dLc, dRgL, dRgT, gRg1, gRg2, iSeqD, iRng1D, iRng2D, tTrue, rdAdd, rdI, rdI0, rdB0, rdIx, rdMul, cdLen, cdAbs, cdInt, cdMin2, cdMax2, cdTup, cdList, cdListM, cdAll, cdAny, cdIsi, dName, dGTup, dGCons, dGNil, dGSub, startD, wipeD, seqOf, listOf, keepOf, List.map_cons, List.map_nil, List.length_cons, List.length_nil, List.cons_append, List.nil_append, Nat.reduceAdd, Nat.reduceSub, List.replicate_succ, List.replicate_zero, List.replicate, List.set_cons_zero, List.set_cons_succ, List.getElem?_cons_zero, List.getElem?_cons_succ, Int.reduceToNat, Int.reduceNeg, Bool.false_eq_true, if_true, if_false, decide_eq_true_eq, Option.some.injEq, exists_eq_left', exists_eq_left, true_and, and_true, D.key, D.int.injEq, D.bl.injEq, D.tup.injEq, D.ref.injEq, D.lst.injEq, D.arg.injEq]
  refine ⟨sl_ok (by decide), eq_nil (xs := ls.map .int) (by simp only [listOf, b1]) ints_ok ⟨_, rfl, ?_⟩⟩
  by_cases c : ls = []
  · subst c
    rw [if_neg (by simp)]
    refine ⟨fs.map .int, by simp only [b4], fin_self (k fs μ' (I.back n2 (by omega)) (by rw [I.len]; exact n6) D4 (fun a m h1 h2 e => (K4 a m h1 h2 e).2.2))⟩
  · rw [if_pos (by simp [c])]
    obtain ⟨l0, one, rfl⟩ := last_split c
    have honeM : one ∈ l0 ++ [one] := by simp
    have hone := I.sub one honeM
    have gl : ∀ (L : List Int) (x : Int), (List.map D.int (L ++ [x]))[(List.map D.int (L ++ [x])).length - 1]? = some (.int x) := fun L x => by simp
    have dl : ∀ (L : List Int) (x : Int), (List.map D.int (L ++ [x])).dropLast = L.map D.int := fun L x => by simp
    refine ⟨p1, _, .int one, rfl, b1, gl _ _, ?_⟩
    rw [dl]
    have D5 := D4.mset (m := .lst (l0.map .int)) q1 l1
    have ix : ∀ (m : Nat) (x : Int), m = n → 0 ≤ x ∧ x < n → ixN m x = some x.toNat := fun m x e h => by
      unfold ixN
      rw [if_pos h.1, if_pos (by omega)]
    have ndl := I.nd
    rw [List.nodup_append] at ndl
    have nd0 : l0.Nodup := ndl.1
    have oneN : one ∉ l0 := fun h => ndl.2.2 one h one (by simp) rfl
    have mem1 : ∀ x, x ∈ l0 ↔ x ∈ l0 ++ [one] ∧ x ≠ one ∧ x ≠ one := fun x => by
      simp only [List.mem_append, List.mem_singleton]
      constructor
      · intro h
        exact ⟨.inl h, fun z => oneN (z ▸ h), fun z => oneN (z ▸ h)⟩
      · rintro ⟨h | h, h1, _⟩
        · exact h
        · exact absurd h h1
    have K5 : ∀ (μ5 : Mu), Keep q l (mset μ' p1 (.lst (l0.map .int))) μ5 → (∀ a m, a ≠ q → a ≠ l → μ a = some m → a ≠ p1 ∧ a ≠ p4 ∧ μ5 a = some m) := fun μ5 kp a m h1 h2 e => by
      obtain ⟨x1, x2, x3⟩ := K4 a m h1 h2 e
      exact ⟨x1, x2, kp a m h1 h2 (by rw [mset_ne x1]; exact x3)⟩
    refine ⟨sl_ok (by decide), eq_nil (xs := l0.map .int) (by simp only [listOf, mset_same]) ints_ok ⟨_, rfl, ?_⟩⟩
    by_cases c0 : l0 = []
    · rw [if_neg (by simp [c0])]
      have b4' : mset μ' p1 (.lst (l0.map .int)) p4 = some (.lst (fs.map .int)) := by rw [mset_ne ne14.symm]; exact b4
      refine ⟨sl_ok (by decide), _, _, rfl, p4, _, one, one.toNat, rfl, rfl, b4', ix _ _ (by rw [List.length_map, I.len]) hone, _, _, rfl, p4, _, one, (one).toNat, rfl, rfl, mset_same, ix _ _ (by rw [List.length_set, List.length_map, I.len]) (I.sub _ honeM), rfl, ?_⟩
      refine ⟨(l0).length, (by simp), _, _, l0, (fs.set one.toNat one).set (one).toNat one, rfl, rfl, ?_, ?_, I.step honeM honeM nd0 mem1, (DrawAt.mset D5 q4 l4).mset q4 l4, fun a m h1 h2 e => ?_⟩
      · rw [mset_ne ne14, mset_ne ne14]; exact mset_same
      · rw [mset_same, List.map_set, List.map_set]
      · obtain ⟨x1, x2, x3⟩ := (K5 _ Keep.rfl') a m h1 h2 e
        exact ⟨x1, x2, by rw [mset_ne x2, mset_ne x2]; exact x3⟩
    · rw [if_pos (by simp [c0])]
      refine ⟨q, l, 4, rfl, D5, by decide, by decide, fun j μ5 j0 j1 D6 K6 => ?_⟩
      have e1 : μ5 p1 = some (.lst (l0.map .int)) := K6 p1 _ q1 l1 mset_same
      have e4 : μ5 p4 = some (.lst (fs.map .int)) := K6 p4 _ q4 l4 (by rw [mset_ne ne14.symm]; exact b4)
      dsimp only
      by_cases cj : 0 < j
      · rw [if_pos cj]
        obtain ⟨l00, other, rfl⟩ := last_split c0
        refine ⟨p1, _, .int other, rfl, e1, gl _ _, ?_⟩
        rw [dl]
        rw [List.nodup_append] at nd0
        have othN : other ∉ l00 := fun h => nd0.2.2 other h other (by simp) rfl
        have hs3 : ∀ x, x ∈ l00 ↔ x ∈ (l00 ++ [other]) ++ [one] ∧ x ≠ one ∧ x ≠ other := fun x => by
          simp only [List.mem_append, List.mem_singleton]
          constructor
          · intro h
            exact ⟨.inl (.inl h), fun z => oneN (by rw [← z]; simp [h]), fun z => othN (z ▸ h)⟩
          · rintro ⟨(h | h) | h, h1, h2⟩
            · exact h
            · exact absurd h h2
            · exact absurd h h1
        have K7 : ∀ a m, a ≠ q → a ≠ l → μ a = some m → a ≠ p1 ∧ a ≠ p4 ∧ mset μ5 p1 (.lst (l00.map .int)) a = some m := fun a m h1 h2 e => by
          obtain ⟨x1, x2, x3⟩ := K5 _ K6 a m h1 h2 e
          exact ⟨x1, x2, by rw [mset_ne x1]; exact x3⟩
        have e4' : mset μ5 p1 (.lst (l00.map .int)) p4 = some (.lst (fs.map .int)) := by rw [mset_ne ne14.symm]; exact e4
        refine ⟨sl_ok (by decide), _, _, rfl, p4, _, one, one.toNat, rfl, rfl, e4', ix _ _ (by rw [List.length_map, I.len]) hone, _, _, rfl, p4, _, other, (other).toNat, rfl, rfl, mset_same, ix _ _ (by rw [List.length_set, List.length_map, I.len]) (I.sub _ (by simp)), rfl, ?_⟩
        refine ⟨(l00).length, (by simp), _, _, l00, (fs.set one.toNat other).set (other).toNat one, rfl, rfl, ?_, ?_, I.step honeM (by simp) nd0.1 hs3, (DrawAt.mset (D6.mset q1 l1) q4 l4).mset q4 l4, fun a m h1 h2 e => ?_⟩
        · rw [mset_ne ne14, mset_ne ne14]; exact mset_same
        · rw [mset_same, List.map_set, List.map_set]
        · obtain ⟨x1, x2, x3⟩ := K7 a m h1 h2 e
          exact ⟨x1, x2, by rw [mset_ne x2, mset_ne x2]; exact x3⟩
      · rw [if_neg cj]
        refine ⟨sl_ok (by decide), _, _, rfl, p4, _, one, one.toNat, rfl, rfl, e4, ix _ _ (by rw [List.length_map, I.len]) hone, _, _, rfl, p4, _, one, (one).toNat, rfl, rfl, mset_same, ix _ _ (by rw [List.length_set, List.length_map, I.len]) (I.sub _ honeM), rfl, ?_⟩
        refine ⟨(l0).length, (by simp), _, _, l0, (fs.set one.toNat one).set (one).toNat one, rfl, rfl, ?_, ?_, I.step honeM honeM nd0 mem1, (DrawAt.mset D6 q4 l4).mset q4 l4, fun a m h1 h2 e => ?_⟩
        · rw [mset_ne ne14, mset_ne ne14]; exact e1
        · rw [mset_same, List.map_set, List.map_set]
        · obtain ⟨x1, x2, x3⟩ := (K5 _ K6) a m h1 h2 e
          exact ⟨x1, x2, by rw [mset_ne x2, mset_ne x2]; exact x3⟩
theorem pu__law_word (ds : List D) (μ : Mu) (Q : DQ) (QE : XQ) (h : sd__law_word ds μ Q QE) : db__law_word { nx := fun _ μ' => fin Q .non μ', rt := fin Q, xe := finX QE } (startD ["draw", "back_here", "most", "k"] ds) μ := by
  obtain ⟨q, l, bs, most, rfl, b0, b1, m0, m1, D0, k⟩ := h
  unfold db__law_word
  simp only [sSeq, sAsg, sRet, sRetN, sDrop, sIf, sPar, sDPutD, sNext, sBrk, sCont, sRaise, sAugI, sFor, sFreeze, dVar, dC, dOp, dTest, dAnd, dOr, dNot, dAndV, dOrV, dNotV, dIf, dChain, dTup, dLst, dLstM, dNil, dCons, dCB, dCall, dCallK, dRev, dSlice, oNone, oSome, dIsN, dNeg, dDGet, dDict, dPs, dPop, dPopAt, dAppend, dLc, dRgL, dRgT, gRg1, gRg2, iSeqD, iRng1D, iRng2D, tTrue, rdAdd, rdI, rdI0, rdB0, rdIx, rdMul, cdLen, cdAbs, cdInt, cdMin2, cdMax2, cdTup, cdList, cdListM, cdAll, cdAny, cdIsi, dName, dGTup, dGCons, dGNil, dGSub, startD, wipeD, seqOf, listOf, keepOf, List.map_cons, List.map_nil, List.length_cons, List.length_nil, List.cons_append, List.nil_append, Nat.reduceAdd, Nat.reduceSub, List.replicate_succ, List.replicate_zero, List.replicate, List.set_cons_zero, List.set_cons_succ, List.getElem?_cons_zero, List.getElem?_cons_succ, Int.reduceToNat, Int.reduceNeg, Bool.false_eq_true, if_true, if_false, decide_eq_true_eq, Option.some.injEq, exists_eq_left', exists_eq_left, true_and, and_true, D.key, D.int.injEq, D.bl.injEq, D.tup.injEq, D.ref.injEq, D.lst.injEq, D.arg.injEq]
  refine ⟨q, l, most + 1, rfl, D0, by omega, by omega, fun i μ1 i0 i1 D1 K1 => ?_⟩
  refine ⟨_, rfl, by omega, by omega, ?_⟩
  refine lc_draw (T := fun i acc => acc.length = i ∧ ∃ ws : List Int, acc = ws.map .int ∧ Lets bs.length ws) (q := q) (l := l) (by unfold rng; rw [List.length_map, List.length_range]; exact sl_ok (by omega)) D1 ⟨rfl, [], rfl, fun _ h => nomatch h⟩ (fun _ _ _ _ _ => trivial) (fun i acc h => Nat.le_of_eq h.1) (fun j x acc μ' R1 R2 hx ht D2 K2 h1 h2 => ?_) (fun p acc μ' ht n0 n1 D2 K2 => ?_)
  · simp only [sSeq, sAsg, sRet, sRetN, sDrop, sIf, sPar, sDPutD, sNext, sBrk, sCont, sRaise, sAugI, sFor, sFreeze, dVar, dC, dOp, dTest, dAnd, dOr, dNot, dAndV, dOrV, dNotV, dIf, dChain, dTup, dLst, dLstM, dNil, dCons, dCB, dCall, dCallK, dRev, dSlice, oNone, oSome, dIsN, dNeg, dDGet, dDict, dPs, dPop, dPopAt, dAppend, dLc, dRgL, dRgT, gRg1, gRg2, iSeqD, iRng1D, iRng2D, tTrue, rdAdd, rdI, rdI0, rdB0, rdIx, rdMul, cdLen, cdAbs, cdInt, cdMin2, cdMax2, cdTup, cdList, cdListM, cdAll, cdAny, cdIsi, dName, dGTup, dGCons, dGNil, dGSub, startD, wipeD, seqOf, listOf, keepOf, List.map_cons, List.map_nil, List.length_cons, List.length_nil, List.cons_append, List.nil_append, Nat.reduceAdd, Nat.reduceSub, List.replicate_succ, List.replicate_zero, List.replicate, List.set_cons_zero, List.set_cons_succ, List.getElem?_cons_zero, List.getElem?_cons_succ, Int.reduceToNat, Int.reduceNeg, Bool.false_eq_true, if_true, if_false, decide_eq_true_eq, Option.some.injEq, exists_eq_left', exists_eq_left, true_and, and_true, D.key, D.int.injEq, D.bl.injEq, D.tup.injEq, D.ref.injEq, D.lst.injEq, D.arg.injEq]
    refine ⟨q, l, bs.length, rfl, D2, by omega, by omega, fun c μ3 c0 c1 D3 K3 => h1 _ _ ?_ D3 K3⟩
    obtain ⟨h3, ws, rfl, hw⟩ := ht
    refine ⟨by simp at h3 ⊢; exact h3, ws ++ [c], by simp, fun x hx => ?_⟩
    rcases List.mem_append.mp hx with hx | hx
    · exact hw x hx
    · rw [List.mem_singleton.mp hx]; exact ⟨c0, c1⟩
  · obtain ⟨h3, ws, rfl, hw⟩ := ht
    simp only [sSeq, sAsg, sRet, sRetN, sDrop, sIf, sPar, sDPutD, sNext, sBrk, sCont, sRaise, sAugI, sFor, sFreeze, dVar, dC, dOp, dTest, dAnd, dOr, dNot, dAndV, dOrV, dNotV, dIf, dChain, dTup, dLst, dLstM, dNil, dCons, dCB, dCall, dCallK, dRev, dSlice, oNone, oSome, dIsN, dNeg, dDGet, dDict, dPs, dPop, dPopAt, dAppend, dLc, dRgL, dRgT, gRg1, gRg2, iSeqD, iRng1D, iRng2D, tTrue, rdAdd, rdI, rdI0, rdB0, rdIx, rdMul, cdLen, cdAbs, cdInt, cdMin2, cdMax2, cdTup, cdList, cdListM, cdAll, cdAny, cdIsi, dName, dGTup, dGCons, dGNil, dGSub, startD, wipeD, seqOf, listOf, keepOf, List.map_cons, List.map_nil, List.length_cons, List.length_nil, List.cons_append, List.nil_append, Nat.reduceAdd, Nat.reduceSub, List.replicate_succ, List.replicate_zero, List.replicate, List.set_cons_zero, List.set_cons_succ, List.getElem?_cons_zero, List.getElem?_cons_succ, Int.reduceToNat, Int.reduceNeg, Bool.false_eq_true, if_true, if_false, decide_eq_true_eq, Option.some.injEq, exists_eq_left', exists_eq_left, true_and, and_true, D.key, D.int.injEq, D.bl.injEq, D.tup.injEq, D.ref.injEq, D.lst.injEq, D.arg.injEq]
    refine fin_self (k ws μ' ?_ hw D2 (K1.trans K2))
    unfold rng at h3
    rw [List.length_map, List.length_map, List.length_range] at h3
    omega
end DL

/-! Plain law: free words. -/
namespace DL
/-- the letter that undoes l -/
def bk (bs : List Int) (l : Int) : Int := bs.getD l.toNat 0
theorem bk_back {bs : List Int} (B : BackI bs) {l : Int} (h0 : 0 ≤ l) (h1 : l < bs.length) : 0 ≤ bk bs l ∧ bk bs l < bs.length ∧ bk bs (bk bs l) = l := by
  have m := B.lets (bk bs l) (getD_mem' (by omega))
  refine ⟨m.1, m.2, ?_⟩
  have := B.inv l.toNat (by omega)
  unfold bk
  rw [this]
  omega
theorem fr_nil {bs : List Int} {l : Int} : frStep bs [] l = [l] := by unfold frStep; rw [if_neg (by simp)]; rfl
theorem fr_snoc {bs st : List Int} {t l : Int} : frStep bs (st ++ [t]) l = if t = bk bs l then st else st ++ [t, l] := by
  unfold frStep bk
  have e1 : (st ++ [t]).length - 1 = st.length := by simp
  have e : (st ++ [t]).getD ((st ++ [t]).length - 1) 0 = t := by
    rw [e1, List.getD_eq_getElem?_getD, List.getElem?_append_right (Nat.le_refl _)]
    simp
  rw [e]
  by_cases c : t = bs.getD l.toNat 0
  · rw [if_pos ⟨by simp, c⟩, if_pos c]
    simp
  · rw [if_neg (fun h => c h.2), if_neg c]
    simp
/-- no letter stands behind the one that it undoes -/
inductive Rdc (bs : List Int) : List Int → Prop
  | nil : Rdc bs []
  | one (x : Int) : Rdc bs [x]
  | snoc {st : List Int} {t l : Int} : Rdc bs (st ++ [t]) → t ≠ bk bs l → Rdc bs (st ++ [t, l])
theorem rdc_snoc {bs st : List Int} {t l : Int} (h : Rdc bs (st ++ [t, l])) : Rdc bs (st ++ [t]) ∧ t ≠ bk bs l := by
  generalize e : st ++ [t, l] = w at h
  cases h with
  | nil => simp at e
  | one x =>
    have := congrArg List.length e
    simp at this
  | @snoc st' t' l' h1 h2 =>
    have e' : (st ++ [t]) ++ [l] = (st' ++ [t']) ++ [l'] := by simpa using e
    obtain ⟨a, b⟩ := List.append_inj' e' rfl
    obtain ⟨c, d⟩ := List.append_inj' a rfl
    cases b
    cases d
    subst c
    exact ⟨h1, h2⟩
theorem rdc_init {bs st : List Int} {t : Int} (h : Rdc bs (st ++ [t])) : Rdc bs st := by
  rcases List.eq_nil_or_concat st with rfl | ⟨s0, x, rfl⟩
  · exact .nil
  · rw [List.concat_eq_append] at h ⊢
    exact (rdc_snoc (by simpa using h)).1
theorem rdc_step {bs st : List Int} (h : Rdc bs st) (l : Int) : Rdc bs (frStep bs st l) := by
  rcases List.eq_nil_or_concat st with rfl | ⟨s0, x, rfl⟩
  · rw [fr_nil]; exact .one _
  · rw [List.concat_eq_append] at h ⊢
    rw [fr_snoc]
    split
    · exact rdc_init h
    · rename_i c
      exact .snoc h c
theorem rdc_fold {bs : List Int} : ∀ (ws : List Int) {st : List Int}, Rdc bs st → Rdc bs (ws.foldl (frStep bs) st)
  | [], _, h => h
  | w :: ws, _, h => rdc_fold ws (rdc_step h w)
theorem rdc_free (bs ws : List Int) : Rdc bs (freeI bs ws) := rdc_fold ws .nil
/-- two steps that undo each other -/
theorem fr_pair {bs st : List Int} (B : BackI bs) (h : Rdc bs st) {x : Int} (h0 : 0 ≤ x) (h1 : x < bs.length) : frStep bs (frStep bs st x) (bk bs x) = st := by
  obtain ⟨b0, b1, b2⟩ := bk_back B h0 h1
  rcases List.eq_nil_or_concat st with rfl | ⟨s0, t, rfl⟩
  · rw [fr_nil]
    have := fr_snoc (bs := bs) (st := []) (t := x) (l := bk bs x)
    rw [List.nil_append] at this
    rw [this, if_pos b2.symm]
  · rw [List.concat_eq_append] at h ⊢
    rw [fr_snoc]
    by_cases c : t = bk bs x
    · rw [if_pos c]
      rcases List.eq_nil_or_concat s0 with rfl | ⟨s1, u, rfl⟩
      · rw [fr_nil, c]; rfl
      · rw [List.concat_eq_append] at h ⊢
        have h' := (rdc_snoc (show Rdc bs (s1 ++ [u, t]) by simpa using h)).2
        rw [fr_snoc, if_neg, c]
        · simp
        · rw [← c]; exact h'
    · rw [if_neg c]
      rw [show s0 ++ [t, x] = (s0 ++ [t]) ++ [x] by simp, fr_snoc, if_pos b2.symm]
theorem free_pair {bs u v : List Int} (B : BackI bs) {x : Int} (h0 : 0 ≤ x) (h1 : x < bs.length) : freeI bs (u ++ [x, bk bs x] ++ v) = freeI bs (u ++ v) := by
  unfold freeI
  rw [List.foldl_append, List.foldl_append, List.foldl_append]
  congr 1
  exact fr_pair B (rdc_free bs u) h0 h1
theorem free_rdc {bs : List Int} : ∀ {ws : List Int}, Rdc bs ws → freeI bs ws = ws := by
  intro ws h
  induction h with
  | nil => rfl
  | one x => exact fr_nil (bs := bs)
  | @snoc st t l h1 h2 ih =>
    unfold freeI at ih ⊢
    rw [show st ++ [t, l] = (st ++ [t]) ++ [l] by simp, List.foldl_append, ih]
    show frStep bs (st ++ [t]) l = _
    rw [fr_snoc, if_neg h2]
    simp
theorem free_free (bs ws : List Int) : freeI bs (freeI bs ws) = freeI bs ws := free_rdc (rdc_free bs ws)
/-- a word none of whose letters undoes the one ahead -/
theorem rdc_of {bs : List Int} (B : BackI bs) : ∀ (ws : List Int), Lets bs.length ws → (∀ k : Nat, k + 1 < ws.length → ws.getD (k + 1) 0 ≠ bk bs (ws.getD k 0)) → Rdc bs ws := by
  intro ws
  induction h : ws.length generalizing ws with
  | zero =>
    intro _ _
    rw [List.length_eq_zero_iff.mp h]
    exact .nil
  | succ n ih =>
    intro hl hk
    rcases List.eq_nil_or_concat ws with rfl | ⟨s0, x, rfl⟩
    · cases h
    · rw [List.concat_eq_append] at *
      rcases List.eq_nil_or_concat s0 with rfl | ⟨s1, t, rfl⟩
      · exact .one x
      · rw [List.concat_eq_append] at *
        have r1 : Rdc bs (s1 ++ [t]) := by
          refine ih (s1 ++ [t]) (by simpa using h) (fun l hm => hl l (by simp at hm ⊢; rcases hm with hm | hm <;> simp [hm])) fun k hk' => ?_
          have hn : (s1 ++ [t]).length = n := by simpa using h
          have := hk k (by omega)
          have g : ∀ j, j < n → ((s1 ++ [t]) ++ [x]).getD j 0 = (s1 ++ [t]).getD j 0 := fun j hj => by
            rw [List.getD_eq_getElem?_getD, List.getD_eq_getElem?_getD, List.getElem?_append_left (by omega)]
          rw [g k (by omega), g (k + 1) (by omega)] at this
          exact this
        rw [show (s1 ++ [t]) ++ [x] = s1 ++ [t, x] by simp] at hl hk ⊢
        refine .snoc r1 fun e => ?_
        have := hk s1.length (by simp at h; omega)
        rw [List.getD_eq_getElem?_getD, List.getD_eq_getElem?_getD, List.getElem?_append_right (by omega), List.getElem?_append_right (by omega)] at this
        simp at this
        apply this
        have lx := hl x (by simp)
        rw [e, (bk_back B lx.1 lx.2).2.2]
theorem undo_append (bs u v : List Int) : undoI bs (u ++ v) = undoI bs v ++ undoI bs u := by
  unfold undoI
  rw [List.reverse_append, List.map_append]
theorem undo_lets {bs ws : List Int} (B : BackI bs) (h : Lets bs.length ws) : Lets bs.length (undoI bs ws) := fun l hl => by
  unfold undoI at hl
  obtain ⟨x, hx, rfl⟩ := List.mem_map.mp hl
  have := h x (List.mem_reverse.mp hx)
  have b := bk_back B this.1 this.2
  exact ⟨b.1, b.2.1⟩
theorem undo_len (bs ws : List Int) : (undoI bs ws).length = ws.length := by unfold undoI; simp
theorem undo_undo {bs ws : List Int} (B : BackI bs) (h : Lets bs.length ws) : undoI bs (undoI bs ws) = ws := by
  unfold undoI
  rw [List.map_reverse, List.map_reverse, List.map_reverse, List.reverse_reverse, List.map_map]
  rw [List.map_congr_left (g := id) fun x hx => ?_, List.map_id]
  have := h x hx
  exact (bk_back B this.1 this.2).2.2
theorem lets_app {n : Nat} {u v : List Int} : Lets n (u ++ v) ↔ Lets n u ∧ Lets n v := by
  constructor
  · intro h
    exact ⟨fun l hl => h l (List.mem_append_left _ hl), fun l hl => h l (List.mem_append_right _ hl)⟩
  · rintro ⟨a, b⟩ l hl
    rcases List.mem_append.mp hl with hl | hl
    · exact a l hl
    · exact b l hl
theorem free_undone {bs : List Int} (B : BackI bs) : ∀ (ws : List Int), Lets bs.length ws → freeI bs (ws ++ undoI bs ws) = [] := by
  intro ws
  induction h : ws.length generalizing ws with
  | zero =>
    intro _
    rw [List.length_eq_zero_iff.mp h]
    rfl
  | succ n ih =>
    intro hl
    rcases List.eq_nil_or_concat ws with rfl | ⟨s0, x, rfl⟩
    · cases h
    · rw [List.concat_eq_append] at *
      obtain ⟨h1, h2⟩ := lets_app.mp hl
      have lx := h2 x (by simp)
      rw [undo_append, show undoI bs [x] = [bk bs x] from rfl, show (s0 ++ [x]) ++ ([bk bs x] ++ undoI bs s0) = s0 ++ [x, bk bs x] ++ undoI bs s0 by simp, free_pair B lx.1 lx.2]
      exact ih s0 (by simpa using h) h1
theorem fr_lets {n : Nat} {bs st : List Int} {l : Int} (h : Lets n st) (h0 : 0 ≤ l ∧ l < n) : Lets n (frStep bs st l) := by
  rcases List.eq_nil_or_concat st with rfl | ⟨s0, x, rfl⟩
  · rw [fr_nil]
    intro m hm
    rw [List.mem_singleton.mp hm]
    exact h0
  · rw [List.concat_eq_append] at *
    obtain ⟨h1, h2⟩ := lets_app.mp h
    rw [fr_snoc]
    split
    · exact h1
    · intro m hm
      rcases List.mem_append.mp hm with hm | hm
      · exact h1 m hm
      · rcases List.mem_cons.mp hm with rfl | hm
        · exact h2 _ (by simp)
        · rw [List.mem_singleton.mp hm]; exact h0
theorem fold_lets {n : Nat} {bs : List Int} : ∀ (ws : List Int) {st : List Int}, Lets n st → Lets n ws → Lets n (ws.foldl (frStep bs) st)
  | [], _, h, _ => h
  | w :: ws, _, h, k => fold_lets ws (fr_lets h (k w (List.mem_cons_self ..))) fun l hl => k l (List.mem_cons_of_mem _ hl)
theorem free_lets {n : Nat} {bs ws : List Int} (h : Lets n ws) : Lets n (freeI bs ws) := fold_lets ws (fun _ h => nomatch h) h
theorem fr_len {bs st : List Int} {l : Int} : (frStep bs st l).length ≤ st.length + 1 := by
  unfold frStep
  split
  · rw [List.length_dropLast]; omega
  · simp
theorem fold_len {bs : List Int} : ∀ (ws : List Int) {st : List Int}, (ws.foldl (frStep bs) st).length ≤ st.length + ws.length
  | [], _ => by simp
  | w :: ws, st => by
    have a := fold_len ws (st := frStep bs st w) (bs := bs)
    have b := fr_len (bs := bs) (st := st) (l := w)
    simp only [List.foldl_cons, List.length_cons] at a ⊢
    omega
theorem free_len (bs ws : List Int) : (freeI bs ws).length ≤ ws.length := by
  have := fold_len (bs := bs) ws (st := [])
  simpa [freeI] using this
theorem undo_fold {bs : List Int} (B : BackI bs) : ∀ (ws st : List Int), Lets bs.length ws → freeI bs (undoI bs (st ++ ws)) = freeI bs (undoI bs (ws.foldl (frStep bs) st))
  | [], st, _ => by rw [List.append_nil]; rfl
  | l :: ws, st, h => by
    have lx := h l (List.mem_cons_self ..)
    have ih := undo_fold B ws (frStep bs st l) fun x hx => h x (List.mem_cons_of_mem _ hx)
    rw [List.foldl_cons, ← ih]
    rcases List.eq_nil_or_concat st with rfl | ⟨s0, t, rfl⟩
    · rw [fr_nil]; rfl
    · rw [List.concat_eq_append]
      rw [fr_snoc]
      by_cases c : t = bk bs l
      · obtain ⟨b0, b1, b2⟩ := bk_back B lx.1 lx.2
        rw [if_pos c, c, show (s0 ++ [bk bs l]) ++ l :: ws = s0 ++ ([bk bs l, l] ++ ws) by simp, undo_append, undo_append, undo_append bs s0 ws, show undoI bs [bk bs l, l] = [bk bs l, bk bs (bk bs l)] from rfl, free_pair B b0 b1]
      · rw [if_neg c]
        simp
theorem rdc_undo {bs : List Int} (B : BackI bs) {ws : List Int} (hl : Lets bs.length ws) (h : Rdc bs ws) : Rdc bs (undoI bs ws) := by
  have key : ∀ (u : List Int), Lets bs.length u → (∀ k : Nat, k + 1 < u.length → u.getD k 0 ≠ bk bs (u.getD (k + 1) 0)) → Rdc bs (undoI bs u) := by
    intro u hu hk
    refine rdc_of B _ (undo_lets B hu) fun k hk' => ?_
    rw [undo_len] at hk'
    have g : ∀ j : Nat, j < u.length → (undoI bs u).getD j 0 = bk bs (u.getD (u.length - 1 - j) 0) := fun j hj => by
      unfold undoI
      rw [List.getD_eq_getElem?_getD, List.getElem?_map, List.getElem?_reverse hj, List.getElem?_eq_getElem (by omega), List.getD_eq_getElem?_getD, List.getElem?_eq_getElem (by omega)]
      rfl
    rw [g _ (by omega), g _ (by omega)]
    have := hk (u.length - 1 - (k + 1)) (by omega)
    rw [show u.length - 1 - (k + 1) + 1 = u.length - 1 - k by omega] at this
    have la := hu _ (getD_mem' (show u.length - 1 - (k + 1) < u.length by omega))
    have lb := hu _ (getD_mem' (show u.length - 1 - k < u.length by omega))
    intro e
    apply this
    rw [(bk_back B lb.1 lb.2).2.2] at e
    rw [← e, (bk_back B la.1 la.2).2.2]
  refine key ws hl ?_
  clear key
  induction h with
  | nil => intro k hk; simp at hk
  | one x => intro k hk; simp at hk
  | @snoc st t l h1 h2 ih =>
    intro k hk
    have hl' := hl
    rw [show st ++ [t, l] = (st ++ [t]) ++ [l] by simp] at hl'
    by_cases c : k + 1 < (st ++ [t]).length
    · have := ih (lets_app.mp hl').1 k c
      rw [show st ++ [t, l] = (st ++ [t]) ++ [l] by simp]
      rw [List.getD_eq_getElem?_getD, List.getD_eq_getElem?_getD] at this ⊢
      rw [List.getElem?_append_left (by omega), List.getElem?_append_left c]
      exact this
    · have e : k = st.length := by simp at hk c; omega
      subst e
      rw [List.getD_eq_getElem?_getD, List.getD_eq_getElem?_getD, List.getElem?_append_right (by omega), List.getElem?_append_right (by omega)]
      simpa using h2
theorem free_undo {bs ws : List Int} (B : BackI bs) (h : Lets bs.length ws) : freeI bs (undoI bs ws) = undoI bs (freeI bs ws) := by
  have := undo_fold B ws [] h
  rw [List.nil_append] at this
  rw [this]
  exact free_rdc (rdc_undo B (free_lets h) (rdc_free bs ws))
end DL

/-! The data layer, 13: functions without parameters as values; an error that is caught and kept. -/
namespace DL
open PySem PySem.Spec PyProof.Rows L2
section
variable {X : Cx} {pins : List (Addr × Obj)} {σ : L2.St} {H : Hp} {s : Shared}
theorem exV_ok {P : Program} {w : World} {h : Heap} {a : Addr} {cls : Value} {d : Option Addr} {oe : Obj} {vs : Array Value} (e : h.get? a = some oe) (e1 : oe.cls = cls) (e2 : oe.dict = d) (e3 : oe.data = .fields vs) : ObjOk P w H h a (ExV cls d a) :=
  ⟨⟨oe, vs, e, e1, e2, e3⟩, ⟨oe, e⟩, fun _ _ ⟨o, vs, h1, h2, h3, h4⟩ st => ⟨o, vs, st _ h1, h2, h3, h4⟩⟩
/-- an object that stands in the heap, none of ours so far and younger than the entry, is known from now on -/
theorem inv_track {a : Addr} {o : HO} (I : Inv X pins σ H s) (na : H a = none) (n0 : X.s_0.heap.get? a = none) (nL : a ≠ X.env.locals) (nc : ∀ v, ¬ s.heap.IsCell a v) (np : ∀ p ∈ X.pn ++ pins, p.1 ≠ a) (new : ObjOk X.prog X.w (upd H a o) s.heap a o) (n1 : X.H_0 a = none) :
    Inv X pins σ (upd H a o) s := by
  have off : ∀ b, b ≠ a → upd H a o b = H b := fun b hb => upd_ne hb
  have old : ∀ b u, X.s_0.heap.get? b = some u → b ≠ a := fun b u e z => by rw [z, n0] at e; cases e
  have was : ∀ b u, X.H_0 b = some u → b ≠ a := fun b u e z => by rw [z, n1] at e; cases e
  refine { I with base := ?_, free := ?_, freeC := ?_, pin := ?_, hok := I.hok.laidN (fun _ _ e => e) na new }
  · refine { I.base with free := ?_, tups := ?_, frzs := ?_, tbls := ?_ }
    · intro b u e n x
      rw [off b (old b u e)]
      exact I.base.free b u e n x
    · intro b xs e
      rw [off b (was b _ e)]
      exact I.base.tups b xs e
    · intro b u v e
      rw [off b (was b _ e)]
      exact I.base.frzs b u v e
    · intro b ps e
      obtain ⟨more, q⟩ := I.base.tbls b ps e
      exact ⟨more, by rw [off b (was b _ e)]; exact q⟩
  · rw [off _ (Ne.symm nL)]
    exact I.free
  · intro x c e
    obtain ⟨v, q⟩ := I.cell x c e
    rw [off c (fun z => nc v (z ▸ q))]
    exact I.freeC x c e
  · intro p hp
    obtain ⟨p1, p2, p3⟩ := I.pin p hp
    exact ⟨p1, by rw [off _ (np p hp)]; exact p2, p3⟩
end
/-- what is wished of the try's body: the error is caught, kept and known behind the suite -/
def wHold (K : PySem.W.Frag) (c : Value) (i : Nat) (ts : Addr → Value → Option Addr → TS) (D : Ends) : WX := fun cls d σ H =>
  PySem.W.exmOne K cls c = some true ∧ ∀ a, H a = none → ts a cls d { nx := fun σ' H' => H' a = none → D.nx (σ'.set i none) (upd H' a (ExV cls d a)), rt := fun _ _ => False } (σ.set i (some (.ref a))) H
section
variable {X : Cx} {x n : Str} {c : Value} {i : Nat} {body suite : List Stmt} {b₀ : Stmt} {np pos pos' : Pos} {tb : WX → TS} {ts : Addr → Value → Option Addr → TS}
theorem ps_try_hold (hs : X.stack = X.env :: X.outer) (hf : X.env.frame = some X.env.locals) (hx : X.ex = []) (hN : X.N.Nodup) (hi : X.N[i]? = some n) (hln : X.env.kindOf n = some .local) (hc : Names X x c)
    (hb : ∀ (W : WX) (pn : List (Addr × Obj)) (xe : Value → Shared → Prop), Takes (X.tr pn xe) W → PSs (X.tr pn xe) body (tb W))
    (hsu : ∀ (a : Addr) (oe : Obj) (cls : Value) (d : Option Addr) (pn : List (Addr × Obj)), Zc cls d oe → PSs (X.suite a ((a, oe) :: pn)) (b₀ :: suite) (ts a cls d)) (h0 : ∀ a, X.s_0.heap.get? a = none → X.H_0 a = none) :
    PS X (.Try body [.ExceptHandler (some (.Name x np)) (some n) (b₀ :: suite) pos'] [] [] pos) (fun D σ H => tb (wHold X.K c i ts D) D σ H) := by
  refine ⟨fun pins s σ H D I h => ?_⟩
  have ok := I.ok
  have hfr : X.A.frames = some (X.env :: X.outer) := ok.frames.trans (by rw [hs])
  refine wpAny_Try_except ?_
  let xe' : Value → Shared → Prop := fun e s₁ => wpAny (model X.prog X.w) X.A (noteFrame e X.env) (fun _ s₂ => wpAny (model X.prog X.w) X.A (setFlight e none) (fun _ s₃ => wpAny (model X.prog X.w) X.A (handleBy e X.env [.ExceptHandler (some (.Name x np)) (some n) (b₀ :: suite) pos']) (SP X pins D) X.xe s₃) X.xe s₂) X.xe s₁
  have tk' : Takes (X.tr (X.pn ++ pins) xe') (wHold X.K c i ts D) := by
    rintro u s' ⟨a, B, sI, pins', σ', H', cls, d, rfl, J', nb, up, sky, na, os, ag, hm, yes⟩
    have J : Inv X pins σ' H' sI := J'.ofTry ok
    show wpAny (model X.prog X.w) X.A (noteFrame (.ref a) X.env) _ _ _
    refine Sky.land Zc.steady hfr hf (by rw [← hs]; exact sky) fun h3 fl3 up3 => ?_
    have J3 : Inv X pins σ' H' { s' with heap := h3 } := J.landed nb fl3.1 (up.trans up3) os ag
    obtain ⟨oe3, vs3, he3, hz3, hd3⟩ := fl3.there
    have nfr : a ∉ frs (X.env :: X.outer) := fun hm => by
      obtain ⟨_, o', e', hnf⟩ := (fl3.2.2.1).mem hm
      rw [he3] at e'
      cases e'
      exact hnf _ hd3
    have nL : a ≠ X.env.locals := fun z => nfr (List.mem_filterMap.mpr ⟨X.env, List.mem_cons_self, by rw [hf, z]⟩)
    have nF : a ∉ X.fs := fun hm => by
      obtain ⟨e, he, q⟩ := List.mem_filterMap.mp hm
      exact nfr (List.mem_filterMap.mpr ⟨e, List.mem_cons_of_mem _ he, q⟩)
    have nI : sI.heap.get? a = none := by
      cases e : sI.heap.get? a with
      | none => rfl
      | some o =>
        have e2 := nb a o e (by rw [show (X.tr (X.pn ++ pins) xe').stack = X.env :: X.outer from hs]; exact nfr)
        rw [fl3.2.1] at e2
        cases e2
    have n0 : X.s_0.heap.get? a = none := by
      cases e : X.s_0.heap.get? a with
      | none => rfl
      | some o =>
        obtain ⟨o', e1⟩ := J.base.there a o e (by rw [hx]; exact fun z => nomatch z)
        rw [nI] at e1
        cases e1
    have S3 := J3.suite he3 hd3 na nL nF
    refine wpAny_handleBy_cons (codeAny_handlers_test ?_) (by intro q; cases q)
    have ty : PySem.W.Looks (model X.prog X.w) h3 (typeOf (.ref a)) cls := fun A Q E s k q => wpAny_typeOf_ref (k _ _ he3) (by rw [hz3.1]; exact q)
    have test : ∀ {Q : Value → Shared → Prop} {E : Value → Shared → Prop}, Q c { s' with heap := h3 } → wpAny (model X.prog X.w) (X.A.mark (some (.ref a))) (eval (.Name x np) X.env) Q E { s' with heap := h3 } := fun {Q E} q => by
      obtain ⟨g1, g2, g3⟩ := hc
      rcases g3 with m | ⟨m, v, nn⟩
      · exact ld_glob (X := X.suite a ((a, oe3) :: (X.pn ++ pins))) S3 g1 m q g2
      · exact ld_blt (X := X.suite a ((a, oe3) :: (X.pn ++ pins))) S3 g1 m v q nn g2
    refine test ((PySem.W.exm_one (M := model X.prog X.w) J3.kIn ty hm).here ?_)
    refine codeAny_handlers_suite_as ?_
    refine HandSPX.lands_againZ fl3 fun h4 fl4 up4 => ?_
    have J4 : Inv X pins σ' H' { s' with heap := h4 } := J.landed nb fl4.1 ((up.trans up3).trans up4) os ag
    obtain ⟨oe4, vs4, he4, hz4, hd4⟩ := fl4.there
    refine store_ok (X := X.suite a ((a, oe4) :: (X.pn ++ pins))) (v := .ref a) (J4.suite he4 hd4 na nL nF) hN hi (.inl hln) rfl (fun s5 S5 => ?_) (.inr hln)
    refine wpAny_mono ((hsu a oe4 cls d (X.pn ++ pins) hz4).run [] s5 _ H' _ S5 (yes a na)) (fun f s6 hsp => ?_) (fun _ _ z => z.elim)
    cases f with
    | brk =>
      obtain ⟨_, _, _, z⟩ := hsp
      exact z.elim
    | cont =>
      obtain ⟨_, _, _, z⟩ := hsp
      exact z.elim
    | ret u =>
      obtain ⟨_, _, _, _, _, z⟩ := hsp
      exact z.elim
    | next =>
      obtain ⟨σ6, H6, S6, q6⟩ := hsp
      -- the error's object is held till the name is gone
      have pinA := S6.pin (a, oe4) (List.mem_append.mpr (.inl List.mem_cons_self))
      have U : Inv X ((a, oe4) :: pins) σ6 H6 s6 := (S6.unsuite ok).pins_of fun p hp => by
        rcases List.mem_cons.mp hp with rfl | hp
        · exact pinA
        · exact (S6.unsuite ok).pin p (List.mem_append_right _ hp)
      refine gone_ok U hN hi hln fun s7 J7 => ?_
      have p7 := J7.pin (a, oe4) (List.mem_append_right _ List.mem_cons_self)
      have I7 : Inv X pins (σ6.set i none) H6 s7 := J7.pins_of fun p hp => J7.pin p (List.mem_append_right _ (List.mem_cons_of_mem _ hp))
      refine ⟨_, _, inv_track I7 p7.2.1 n0 nL (fun v z => ?_) (fun p hp z => ?_) (exV_ok (vs := vs4) p7.1 hz4.1 hz4.2 hd4) (h0 a n0), q6 p7.2.1⟩
      · obtain ⟨o, e1, e2⟩ := z
        rw [p7.1] at e1
        cases e1
        exact p7.2.2.2.2 _ e2
      · -- what is pinned was there ahead of the try
        have pq := (J.pin p hp).1
        rw [z, nI] at pq
        cases pq
  refine wpAny_mono ((hb _ _ _ tk').run [] s σ H D (I.toTry _) h) (fun f s1 hsp => ?_) (fun e s1 he => he)
  cases f with
  | next =>
    obtain ⟨σ', H', J', q⟩ := hsp
    exact wpAny_execs_nil ⟨σ', H', J'.ofTry ok, q⟩
  | brk =>
    obtain ⟨σ', H', J', q⟩ := hsp
    exact ⟨σ', H', J'.ofTry ok, q⟩
  | cont =>
    obtain ⟨σ', H', J', q⟩ := hsp
    exact ⟨σ', H', J'.ofTry ok, q⟩
  | ret u =>
    obtain ⟨v, σ', H', J', r, q⟩ := hsp
    exact ⟨v, σ', H', J'.ofTry ok, r, q⟩
end
/-! ### functions without parameters -/
theorem objOk_some {P : Program} {w : World} {H : Hp} {h : Heap} {a : Addr} {o : HO} (x : ObjOk P w H h a o) : ∃ u, h.get? a = some u := by
  cases o with
  | lst xs => obtain ⟨_, _, _, _, e⟩ := x; exact ⟨_, e⟩
  | tup xs => obtain ⟨_, _, _, o, e, _⟩ := x; exact ⟨_, e⟩
  | dK kvs => obtain ⟨_, _, _, _, o, _, _, e, _⟩ := x; exact ⟨_, e⟩
  | dT kvs => obtain ⟨_, _, _, _, o, _, _, e, _⟩ := x; exact ⟨_, e⟩
  | set S n => obtain ⟨o, _, _, _, e, _⟩ := x; exact ⟨_, e⟩
  | ins C dx fs => obtain ⟨_, _, _, e, _⟩ := x; exact ⟨_, e⟩
  | own y => obtain ⟨_, e⟩ := x; exact ⟨_, e⟩
  | xd fs => obtain ⟨_, ⟨_, _, _, e, _⟩, _⟩ := x; exact ⟨_, e⟩
  | rng lo hi => obtain ⟨_, _, _, e⟩ := x; exact ⟨_, e⟩
  | frz ob u => obtain ⟨e, _⟩ := x; exact ⟨_, e⟩
  | tbl ps => exact ⟨_, x⟩
  | met f y => exact ⟨_, x⟩
  | ext φ => obtain ⟨_, ⟨_, e⟩, _⟩ := x; exact ⟨_, e⟩
theorem fnO_ok {P : Program} {w : World} {H : Hp} {h : Heap} {f c' : Addr} {q : Str} {params : Arguments} {body : Expr} {scope : Scope} {C : List (Str × Addr)} {pm ctv : Value} (e : h.get? f = some (PySem.W.kla_obj "<lambda>" (q ++ "<lambda>") params body scope (cloFrom C scope.names []) pm c' ctv)) :
    ObjOk P w H h f (FnO f c' q params body scope C pm ctv) := ⟨e, ⟨_, e⟩, fun _ _ h1 st => st _ h1⟩
section
variable {X : Cx} {pins : List (Addr × Obj)} {σ : L2.St} {B H : Hp} {μ : Mu} {s : Shared}
/-- the lambda is made: its code object is new, or found in the table -/
theorem lam_good {c P : Addr} {params : Arguments} {body : Expr} {scope : Scope} {pos : Pos} {E : Value → Shared → Prop} {Q : Value → Shared → Prop} (I : Inv X pins σ H s) (g : Good X.K B H μ) (TB : LamX.TabB X.base X.mg c P) (hcode : X.env.code = .ref c)
    (hμ : μ P = some (.tbl (X.env.qual ++ "<lambda>"))) (hdef : defaultsOf params X.env = ([], [])) (hfree : ∀ y ∈ scope.names, y.2 = .free → ∃ c, X.env.cells.lookup y.1 = some c)
    (h : ∀ (f : Addr) (B1 H1 : Hp) (s' : Shared), Ext B B1 → Inv X pins σ H1 s' → Good X.K B1 H1 μ → Rp X.K B1 (.ref f) (.fn (.Lambda params body scope pos) X.env.cells X.env.qual) → Q (.ref f) s') :
    wpAny (model X.prog X.w) X.A (eval (.Lambda params body scope pos) X.env) Q E s := by
  obtain ⟨hBP, ps, hP, ht, ha⟩ := g.mo P _ hμ
  refine PySem.W.kla_eval hdef ?_
  have bP : s.heap.BuiltinsAt X.mg P := TB.bm.keeps I.bk
  have hP' : s.heap.get? P = some { cls := .none, data := .fields ps } := I.hok P _ hP
  have up : ∀ (B1 H1 : Hp) (f c' : Addr) (pm ctv : Value) (h' : Heap) (tk : Nat), Ext B B1 → Good X.K B1 H1 μ → Inv X pins σ H1 { s with heap := h', toks := tk } → f = h'.objs.size → B1 c' = some (LamX.CodeO c' (X.env.qual ++ "<lambda>")) →
      Q (.ref f) { s with heap := h'.push (PySem.W.kla_obj "<lambda>" (X.env.qual ++ "<lambda>") params body scope (cloFrom X.env.cells scope.names []) pm c' ctv), toks := tk } := fun B1 H1 f c' pm ctv h' tk e1 g1 I1 ef hc => by
    subst ef
    have hn : H1 h'.objs.size = none := I1.hok.fresh (Nat.le_refl _)
    have hb : B1 h'.objs.size = none := g1.freeB hn
    have nc : c' ≠ h'.objs.size := fun z => by rw [z, hb] at hc; cases hc
    refine h h'.objs.size (upd B1 h'.objs.size (FnO h'.objs.size c' X.env.qual params body scope X.env.cells pm ctv)) _ _ (e1.trans (Ext.new hb)) (I1.laid (t' := tk) (fun b u e => Heap.get?_push_of_some _ e) (Nat.le_refl _) (fnO_ok (pm := pm) (ctv := ctv) (Heap.get?_push_size _ rfl))) (g1.still hn) ?_
    exact .fn upd_same (by rw [upd_ne nc]; exact hc)
  cases hc : codeAmong pos ps.toList with
  | some cv =>
    obtain ⟨c', e, hco⟩ := ha pos cv hc
    subst e
    refine PySem.W.kla_makeFunctionHit (mg := X.mg) (c := c) (P := P) (ps := ps) (closure_ok hfree) I.ok.glob (I.mod.glob.keeps I.bk) hcode (TB.code.keeps I.bk) hP' ht hc bP fun ctv h' tk hx hsz => ?_
    exact up B H _ c' _ ctv h' tk Ext.rfl' g (I.kept fun b o e => hx b o e) rfl hco
  | none =>
    refine PySem.W.kla_makeFunction (mg := X.mg) (c := c) (P := P) (ps := ps) (closure_ok hfree) I.ok.glob (I.mod.glob.keeps I.bk) hcode (TB.code.keeps I.bk) hP' ht hc TB.gP bP fun c' ctv h' tk hx hge hlt hrec htb => ?_
    obtain ⟨c2, oc, vs, t, e2, hoc, hd, hv⟩ := hrec
    cases e2
    have nC : H c' = none := I.hok.fresh hge
    have nB : B c' = none := g.freeB nC
    have nP : P ≠ c' := fun z => by rw [z, nC] at hP; cases hP
    have I1 := LamX.inv_table (t' := tk) (more := #[rawInt pos.line, rawInt pos.col, .ref c']) (h' := h') I hP (fun b o hb e => hx b o hb e) htb hge ⟨oc, vs, t, hoc, hd, hv⟩
    refine up (upd B c' (LamX.CodeO c' (X.env.qual ++ "<lambda>"))) _ _ c' _ ctv h' tk (Ext.new nB) ⟨fun a u e => ?_, fun a m e => ?_⟩ I1 rfl upd_same
    · by_cases z : a = c'
      · rw [z, upd_same] at e ⊢
        exact e
      · rw [upd_ne z] at e ⊢
        have na : a ≠ P := fun z => by rw [z, hBP] at e; cases e
        rw [upd_ne na]
        exact g.ex a u e
    · obtain ⟨g1, g2⟩ := g.mo a m e
      have na : a ≠ c' := fun z => by
        obtain ⟨o, ho⟩ := g2.tracked
        rw [z, nC] at ho
        cases ho
      refine ⟨by rw [upd_ne na]; exact g1, ?_⟩
      by_cases z : a = P
      · subst z
        rw [hμ] at e
        cases e
        have eL : (ps ++ #[rawInt pos.line, rawInt pos.col, .ref c']).toList = ps.toList ++ [rawInt pos.line, rawInt pos.col, .ref c'] := by simp
        refine ⟨ps ++ #[rawInt pos.line, rawInt pos.col, .ref c'], by rw [upd_ne na, upd_same], by rw [eL]; exact PySem.TriplesOk_snoc _ _ _ _ ht, fun p' cv hcv => ?_⟩
        rw [eL] at hcv
        rcases LamX.among_app _ ht hcv with y | y
        · obtain ⟨c0, y1, y2⟩ := ha p' cv y
          exact ⟨c0, y1, Ext.new nB _ _ y2⟩
        · exact ⟨c', y, upd_same⟩
      · exact g2.mono (Ext.new nB) (by rw [upd_ne na, upd_ne z])
end
/-- lambda: .. -/
def dLam (P : Addr) (e : Expr) (C : List (Str × Addr)) (q : Str) : DE := fun _ μ Q _ => μ P = some (.tbl (q ++ "<lambda>")) ∧ Q (.fn e C q) μ
theorem re_lam {X : Cx} {W : WX} {c P : Addr} {params : Arguments} {body : Expr} {scope : Scope} {pos : Pos} (TB : LamX.TabB X.base X.mg c P) (hcode : X.env.code = .ref c) (L : LamX.LamS X.env.scope scope) (hdef : defaultsOf params X.env = ([], []) := by rfl) :
    RE X W (.Lambda params body scope pos) (dLam P (.Lambda params body scope pos) X.env.cells X.env.qual) := by
  refine ⟨⟨fun pins s σ H Q I h => ?_⟩⟩
  obtain ⟨B, ρ, μ, QD, QE, g, sl, ⟨hμ, q⟩, k, x⟩ := h
  exact lam_good I g TB hcode hμ hdef (L.has I.ok) fun f B1 H1 s' e1 I1 g1 r1 => ⟨.ref f, H1, I1, rfl, k.ok _ _ H1 B1 μ e1 g1 r1 q⟩
/-- what the lambda e does, made in X: its body's derivation -/
def LamOk (X : Cx) (k : Nat) (e : Expr) (de : DE) : Prop := ∃ (params : Arguments) (body : Expr) (scope : Scope) (pos : Pos), e = .Lambda params body scope pos ∧ LamX.LamS X.env.scope scope ∧
  (∀ (q : Str) (cl : List (Str × Addr)) (pm cv ctv : Value), bindArgs (PySem.W.kla_fn "<lambda>" q params body scope cl pm cv ctv) ⟨[], []⟩ = pure []) ∧
  ∀ (A : Around) (outer : List Env) (s : Shared) (H : Hp) (E : XK) (f c' : Addr), A.guards = X.A.guards → Room k (A.deeper (LamX.lamEnv X scope s.heap.objs.size f c')) → RE (LamX.lamCx X A outer s H E scope f c') (fun cls d _ H => E cls d H) body de
/-- the def that calls what it gets and keeps the error -/
structure CaughtDef (K : PySem.W.Frag) (mg : Str → Option Value) (x : Str) (names : List Str) : Prop where
  ex : ∃ (g CG : Addr) (st : Stmt) (fd : FuncData), mg x = some (.ref g) ∧ Fun K x x st g fd ∧ L2.Binds K fd ["work"] [] ∧ FnScope ["work", "caught", "error"] ["work"] (defScope st) ∧
    (defScope st).names.lookup ("work" : Str) = some .local ∧ (defScope st).names.lookup ("caught" : Str) = some .local ∧ (defScope st).names.lookup ("error" : Str) = some .local ∧ (defScope st).names.lookup ("GroupError" : Str) = some .globalImplicit ∧ mg "GroupError" = some (.ref CG) ∧
    (∀ c, c ∈ names → ∀ cls, PySem.W.nsIn K mainGlobals c = some (some cls) → PySem.W.exmOne K cls (.ref CG) = some true) ∧
    ∃ (p1 p2 p3 p4 p5 p6 p7 p8 p9 p10 p11 p12 p13 p14 : Pos) (j : Nat), defBody st = [.Assign [.Name "caught" p1] (.Constant .none j p2) p3,
      .Try [.Expr (.Call (.Name "work" p4) [] [] p5) p6] [.ExceptHandler (some (.Name "GroupError" p7)) (some "error") [.Assign [.Name "caught" p8] (.Name "error" p9) p10] p11] [] [] p12, .Return (some (.Name "caught" p13)) p14]
/-- what is caught of the lambda that da gives: None, or the error -/
def dCaught (C : List (Str × Addr)) (q : Str) (tbl : List (Expr × DE)) (names : List Str) (da : DE) : DE := fun ρ μ Q E => da ρ μ (fun d μ1 => ∃ e de, d = .fn e C q ∧ (e, de) ∈ tbl ∧ de ρ μ1 (fun _ μ2 => Q .non μ2) (fun x μ2 => x.cls ∈ names ∧ Q (.exc x.cls x.fs) μ2)) E
section
variable {X : Cx} {pins : List (Addr × Obj)} {σ : L2.St} {B H : Hp} {μ : Mu} {s : Shared}
/-- x(), in the def that got the lambda: that def's context, entered at s -/
theorem act_at {CXg : CXT} {Eg : XK} {Ng : List Str} {qg : Str} {sg : Scope} {g f c' : Addr} {cdg pm ctv : Value} {params : Arguments} {body : Expr} {scope : Scope} {k i : Nat} {a : Str} {pn : List (Addr × Obj)} {xe : Value → Shared → Prop} {W : WX} {de : DE} {p1 p2 : Pos}
    (I : Inv X pins σ H s) (L : LamX.LamS X.env.scope scope) (hbind : ∀ (q : Str) (cl : List (Str × Addr)) (pm cv ctv : Value), bindArgs (PySem.W.kla_fn "<lambda>" q params body scope cl pm cv ctv) ⟨[], []⟩ = pure [])
    (tk : Takes ((cxOf CXg X.prog X.w X.K X.mg X.base Ng qg sg g cdg X.A X.stack s H Eg).tr pn xe) W) (hr : Room (k + 1) (X.A.deeper (envOfC qg sg s.heap.objs.size g cdg)))
    (hgu : (X.A.deeper (envOfC qg sg s.heap.objs.size g cdg)).guards = X.A.guards)
    (hbody : ∀ (A : Around) (outer : List Env) (s : Shared) (H : Hp) (E : XK) (f c' : Addr), A.guards = X.A.guards → Room k (A.deeper (LamX.lamEnv X scope s.heap.objs.size f c')) → RE (LamX.lamCx X A outer s H E scope f c') (fun cls d _ H => E cls d H) body de)
    (hN : Ng[i]? = some a) (hv : Vis sg a) (hd : (a == ("__debug__" : Str)) = false := by decide) (hcd : (a == ("__classdict__" : Str)) = false := by decide) :
    PE ((cxOf CXg X.prog X.w X.K X.mg X.base Ng qg sg g cdg X.A X.stack s H Eg).tr pn xe) (.Call (.Name a p1) [] [] p2)
      (fun σZ HZ Q => σZ[i]? = some (some (.ref f)) ∧ HZ f = some (FnO f c' X.env.qual params body scope X.env.cells pm ctv) ∧ HZ c' = some (LamX.CodeO c' (X.env.qual ++ "<lambda>")) ∧ upE X.K (fun cls d _ H' => W cls d σZ H') de σ HZ Q) := by
  refine ⟨fun pinsZ sZ σZ HZ Q IZ h => ?_⟩
  obtain ⟨hs, hf, hc, ht⟩ := h
  refine wpAny_Call_Name_kw (thn ((pe_var (pos := p1) (i := i) hN hv hd hcd).run pinsZ sZ σZ HZ (fun v H1 => v = .ref f ∧ H1 = HZ) IZ ⟨.ref f, hs, rfl, rfl⟩) fun u s1 ⟨v, H1, I1, r1, q1⟩ => ?_)
  obtain ⟨ev, eH⟩ := q1
  subst ev
  rw [eH] at I1
  cases r1
  obtain ⟨of1, _, _⟩ := I1.hok f _ hf
  obtain ⟨⟨oc, vs, t, hoc, hdc, hvc⟩, _, _⟩ := I1.hok c' _ hc
  have un : Un (frs X.stack) [] H HZ s.heap s1.heap := I1.base
  refine PySem.W.callWith_F0 ⟨_, _, _, _, of1⟩ ?_
  have rc : codeAny (model X.prog X.w) (X.A.deeper (envOfC qg sg s.heap.objs.size g cdg)) (.call (.ref f) ⟨[], []⟩) (CR (L2.CX X.prog X.w) (envOfC qg sg s.heap.objs.size g cdg :: X.stack) X.prog X.w HZ s1 Q (WE W σZ)) s1 := by
    refine PySem.W.kla_callFunE hr.depth of1 rfl L.co L.gen rfl ⟨c', oc, vs, t, rfl, hoc, hdc, hvc⟩ ?_
    rw [hbind]
    refine wpAny_pure (wpAny_newFunctionEnv (fun y hy => (L.own y hy).2) (fun y hy => absurd hy (by simp)) (fun h₁ hns hsb => ⟨I1.nolimit.fresh _ hsb, ?_⟩) L.kind)
    show codeAny _ _ (.expr body (LamX.lamEnv X scope s1.heap.objs.size f c')) _ _
    have kp : ∀ b o, s1.heap.get? b = some o → h₁.get? b = some o := fun b o e => hsb.extBut b o (Nat.ne_of_lt (Heap.lt_size e)) (Heap.get?_push_of_some _ e)
    have J := LamX.lam_start2 (E := WE W σZ) (f := f) (c' := c') (tk := s1.toks + ([] : List (Str × Value)).length) I L I1.env0 hr.hd un hns kp
    refine PySem.W.kla_codeExpr (wpAny_mono ((hbody _ _ s1 HZ (WE W σZ) f c' hgu (hr.deeper _)).pe.run [] _ _ HZ Q J ht) (fun v s' hq => ?_) fun e s' hq => hq)
    obtain ⟨w', H', J', rv, q⟩ := hq
    exact ⟨w', H', J'.os, J'.bare, J'.base, J'.hok, rv, q⟩
  refine wpAny_call (codeAny_mono rc fun r s' hq => ?_)
  cases r with
  | error e => exact passAt tk σZ pinsZ HZ s1 e s' I1 hq
  | ok fl =>
    cases fl with
    | ret u => exact I1.after hq
    | next => exact False.elim hq
    | brk => exact False.elim hq
    | cont => exact False.elim hq
end
theorem re_caught {X : Cx} {W : WX} {k : Nat} {x : Str} {names : List Str} {tbl : List (Expr × DE)} {arg : Expr} {da : DE} {p pos : Pos} (F : CaughtDef X.K X.mg x names) (hr : Room (k + 2) X.A) (hg : Gl X x) (ha : RE X W arg da) (hT : ∀ e de, (e, de) ∈ tbl → LamOk X k e de)
    (hgu : ∀ env : Env, (X.A.deeper env).guards = X.A.guards) (hdb : (x == ("__debug__" : Str)) = false := by decide)
    (hse : starEach [arg] X.env = (false, eval arg X.env) :: starEach [] X.env := by rfl) (hpl : (backTo pos (starEach [] X.env)).any (·.1) = false := by rfl) :
    RE X W (.Call (.Name x p) [arg] [] pos) (dCaught X.env.cells X.env.qual tbl names da) := by
  obtain ⟨g, CG, st, fd, hm, FF, hb, S, n1, n2, n3, n4, mG, exm, p1, p2, p3, p4, p5, p6, p7, p8, p9, p10, p11, p12, p13, p14, j, hB⟩ := F.ex
  refine ⟨⟨fun pins s σ H Q I h => ?_⟩⟩
  obtain ⟨B, ρ, μ, QD, QE, gd, sl, q, kk, xx⟩ := h
  refine wpAny_Call_Name_kw (ld_glob I hg hm ?_ hdb)
  refine PySem.W.callWith_K (h₀ := X.base) I.ok.mod.kin FF.kp ?_ hse hpl
  refine thn ((pa_cons ha.pe pa_nil hse).run pos pins s σ H (fun vs H2 => ∃ v B2 μ2 d, vs = [v] ∧ Ext B B2 ∧ Good X.K B2 H2 μ2 ∧ Rp X.K B2 v d ∧ ∃ e de, d = .fn e X.env.cells X.env.qual ∧ (e, de) ∈ tbl ∧ de ρ μ2 (fun _ μ3 => QD .non μ3) (fun y μ3 => y.cls ∈ names ∧ QD (.exc y.cls y.fs) μ3)) I
    ⟨B, ρ, μ, _, QE, gd, sl, q, ⟨fun v d H1 B1 μ1 e1 g1 r1 q1 => ⟨v, B1, μ1, d, rfl, e1, g1, r1, q1⟩⟩, xx⟩) fun us s2 ⟨vs, H2, I2, rv, v, B2, μ2, d, ev, e2, g2, r2, e, de, ed, hmem, hde⟩ => ?_
  subst ev ed
  refine ⟨I2.kIn, ?_⟩
  obtain ⟨params, body, scope, lpos, rfl, L, hbind, hbody⟩ := hT e de hmem
  cases r2 with
  | @fn f c' _ _ _ _ _ _ pm ctv hBf hBc =>
  obtain rfl := Vals.ref1 rv
  obtain ⟨oc, od, kV, doc, pm2, an, cdv, ct, osl, rfl, lk, hcd⟩ := FF.ex
  have hf := g2.ex _ _ hBf
  have hc := g2.ex _ _ hBc
  have rc : codeAny (model X.prog X.w) X.A (.call (.ref g) ⟨[.ref f], []⟩) (CR (L2.CX X.prog X.w) X.stack X.prog X.w H2 s2 Q (fun _ _ _ => False)) s2 := by
    refine LamX.run_ofS (N := ["work", "caught", "error"]) (ps := ["work"]) (us := [.ref f]) (vs := [.ref f]) lk hcd S hr I2.env0 (hb s2 [.ref f] I2.kIn rfl) (.cons rfl .nil) rfl fun hr' => ?_
    rw [hB]
    refine ⟨_, pss_cons (ps_set (i := 1) S.nd rfl (.inl n2) pe_non) (pss_cons (ps_try_hold (i := 2) (c := .ref CG) (tb := fun W D σZ HZ => σZ[0]? = some (some (.ref f)) ∧ HZ f = some (FnO f c' X.env.qual params body scope X.env.cells pm ctv) ∧ HZ c' = some (LamX.CodeO c' (X.env.qual ++ "<lambda>")) ∧ upE X.K (fun cls d _ H' => W cls d σZ H') de σ HZ (fun _ H' => D.nx σZ H'))
      (ts := fun a cls d => tAsg (tVar 2) (gName 1)) rfl rfl rfl S.nd rfl n3 ⟨n4, by decide, .inl mG⟩ (fun W pn xe tk => ?_) (fun a oe cls d pn hz => pss_one (ps_set (i := 1) S.nd rfl (.inl n2) (pe_var (i := 2) rfl (.inl n3)))) (fun b hb0 => ?_))
      (pss_one (ps_ret (pe_var (i := 1) rfl (.inl n2))))), ?_⟩
    · exact pss_one (ps_expr (act_at (i := 0) I2 L hbind tk hr' (hgu _) hbody rfl (.inl n1)))
    · show H2 b = none
      cases e : H2 b with
      | none => rfl
      | some o =>
        obtain ⟨u, hu⟩ := objOk_some (I2.hok b o e)
        rw [show s2.heap.get? b = none from hb0] at hu
        cases hu
    · refine ⟨rfl, hf, hc, B2, ρ, μ2, _, _, g2, sl.mono e2, hde, ⟨fun v d H3 B3 μ3 e3 g3 r3 q3 => ?_⟩, ⟨fun cls dx y H3 B3 μ3 e3 g3 r3 q3 => ?_⟩⟩
      · exact ⟨.non, rfl, kk.ok .non .non H3 B3 μ3 (e2.trans e3) g3 .non q3⟩
      · obtain ⟨r4, r5⟩ := r3
        refine ⟨exm _ q3.1 _ r4, fun a ha => ⟨.ref a, rfl, fun ha' => ⟨.ref a, rfl, ?_⟩⟩⟩
        have hBa := g3.freeB ha
        refine kk.ok (.ref a) (.exc y.cls y.fs) _ (upd B3 a (ExV cls dx a)) μ3 ((e2.trans e3).trans (Ext.new hBa)) (g3.still ha) ?_ q3.2
        rcases r5 with ⟨rfl, e5⟩ | ⟨p, fs, rfl, e6, e7⟩
        · rw [e5]
          exact .exc r4 upd_same
        · have np : p ≠ a := fun z => by rw [z, hBa] at e6; cases e6
          exact .excD r4 upd_same (by rw [upd_ne np]; exact e6) (e7.mono (Ext.new hBa))
  refine wpAny_call (codeAny_mono rc fun r s' hq => ?_)
  cases r with
  | error e =>
    obtain ⟨_, _, _, _, _, _, _, _, _, _, _, _, z⟩ := hq
    exact z.elim
  | ok fl =>
    cases fl with
    | ret u => exact I2.after hq
    | next => exact False.elim hq
    | brk => exact False.elim hq
    | cont => exact False.elim hq
end DL

/-! The data layer, 12: the end of a law, its def entered by the claim's own caller (no repr is under way there). -/
namespace DL
open PySem PySem.Spec PyProof.Rows L2
/-- what the law's def does, called ahead of all else -/
def LawAt (P : Program) (w : World) (K : PySem.W.Frag) (mg : Str → Option Value) (base : Heap) (fa : Addr) : Prop :=
  ∀ (s : Shared) (H : Hp) (a : Addr) (ns : List Int), ns.length ≤ 63 → SqL K H a (ns.map V.int) → Env0 P w K mg base callerA [] s H →
    codeAny (model P w) callerA (.call (.ref fa) ⟨[.ref a], []⟩) (CR (L2.CX P w) [] P w H s (fun v _ => v = .bl true) (fun _ _ _ => False)) s
/-- the promise of a law -/
def sdLaw : SpD := fun ds μ Q _ => ∃ ns : List Int, ds = [.arg (ns.map .int)] ∧ ns.length ≤ 63 ∧ ∀ μ', Q (.bl true) μ'
section
variable {P : Program} {w : World} {K : PySem.W.Frag} {mg : Str → Option Value} {base : Heap}
theorem law_at {x p : Str} {st : Stmt} {fa : Addr} {fd : FuncData} {N : List Str} {k : Nat} {db : DS} (F : Fun K x x st fa fd) (S : FnScope N [p] (defScope st)) (bi : ∀ (s : Shared) (u : Value), BindsTo s fd ⟨[u], []⟩ [(p, u)]) (hr : Room (k + 1) callerA)
    (hbody : ∀ (cdv : Value) (s : Shared) (H : Hp) (E : XK), Room k (callerA.deeper (envOfC x (defScope st) s.heap.objs.size fa cdv)) →
      RSs (cxOf (L2.CX P w) P w K mg base N x (defScope st) fa cdv callerA [] s H E) (fun cls d _ H => E cls d H) (defBody st) db)
    (pure : ∀ ds μ Q QE, sdLaw ds μ Q QE → db { nx := fun _ μ' => fin Q .non μ', rt := fin Q, xe := finX QE } (startD N ds) μ) : LawAt P w K mg base fa := by
  intro s H a ns hl hS e0
  obtain ⟨oc, od, kV, doc, pm, an, cdv, ct, osl, rfl, lk, hcd⟩ := F.ex
  have old : ∀ b o, base.get? b = some o → s.heap.get? b = some o := fun b o e => (e0.bs b o e).1
  have KX : K.In s.heap := e0.mod.kin.keeps old
  refine codeAny_call_function hr.depth (KX _ _ lk) rfl S.co S.gen rfl (PySem.W.codeRec_of KX hcd) (bi s (.ref a) _ _ _ _ ?_)
  refine wpAny_newFunctionEnv_cells S.kind (fun y hy => ?_) fun env he s1 ic => ?_
  · rw [List.mem_singleton.mp hy]
    rcases S.par p (List.mem_singleton.mpr rfl) with q | q
    · exact .inl q
    · exact .inr ⟨q, PySem.W.cellsFrom_some _ _ _ (.inl q)⟩
  subst he
  refine ⟨(e0.mod.nolimit.keeps old).keeps ic.toInCall.keep, codeAny_func ?_⟩
  -- the entry, over data
  have up : upSp K sdLaw [.ref a] H (fun v _ => v = .bl true) (fun _ _ _ => False) :=
    ⟨H, [.arg (ns.map .int)], fun _ => none, fun d _ => d = .bl true, fun _ _ => False, ⟨Ext.rfl', fun _ _ e => by cases e⟩, .cons (.arg hS RpL.of_ints) .nil, ⟨ns, rfl, hl, fun _ => rfl⟩,
      ⟨fun v d H2 B2 μ2 e g r q => by subst q; exact r.bl_inv⟩, ⟨fun _ _ _ _ _ _ _ _ _ q => q.elim⟩⟩
  obtain ⟨B, ds, μ, QD, QE, g, r, q, k1, k2⟩ := up
  have run := (hbody cdv s H (fun _ _ _ => False) (hr.deeper _)).pss
  have t0 : upS K (fun cls d _ H => (fun _ _ _ => False : XK) cls d H) db { nx := fun _ H' => V.non = .bl true, rt := fun v _ => v = .bl true } (L2.start N [.ref a]) H :=
    ⟨B, _, μ, _, g, start_rel r, pure ds μ QD QE q, ⟨fun σ2 ρ2 H2 B2 μ2 e g2 s2 q2 => k1.fin.ok .non .non H2 B2 μ2 e g2 .non q2, fun σ2 ρ2 H2 B2 μ2 e g2 s2 q2 => q2.elim, fun σ2 ρ2 H2 B2 μ2 e g2 s2 q2 => q2.elim, k1.fin, fun σ => ⟨fun cls dx y H2 B2 μ2 e g2 r2 q2 => by
      obtain ⟨μ', l, q2⟩ := q2
      exact k2.ex cls dx y H2 B2 μ' e (g2.less l) r2 q2⟩⟩⟩
  have I : Inv (cxOf (L2.CX P w) P w K mg base N x (defScope st) fa cdv callerA [] s H (fun _ _ _ => False)) [] (L2.start N [.ref a]) H s1 := inv_start (ps := [p]) (us := [.ref a]) S hr.hd e0 rfl (.cons rfl .nil) ic
  refine wpAny_mono (run.run [] s1 _ H _ I t0) (fun fl s' hs => ?_) fun e s' hs => hs
  cases fl with
  | ret u =>
    obtain ⟨v, σ', H', J, rv, q⟩ := hs
    exact ⟨v, H', J.os, J.bare, J.base, J.hok, rv, q⟩
  | next =>
    obtain ⟨σ', H', J, q⟩ := hs
    cases q
  | brk =>
    obtain ⟨_, _, _, q⟩ := hs
    exact False.elim q
  | cont =>
    obtain ⟨_, _, _, q⟩ := hs
    exact False.elim q
/-- the script alone is tracked, if it is no object of the module -/
def scriptH (K : PySem.W.Frag) (a : Addr) (o : Obj) (ns : List Int) : Hp := fun b => if b = a ∧ K.lookup a = none then some (.frz o (.lst (ns.map V.int))) else none
theorem law_top {mb : Str → Option Value} {fa a : Addr} {s₁ : Shared} {vs : List Value} {ns : List Int} (KX : K.In s₁.heap) (hns : s₁.heap.Ns mainGlobals mg) (hb : s₁.heap.Ns builtinsNs mb) (hbb : ∀ x : Str, x ≠ "__name__" → mb x = bootBuiltins x) (hlim : s₁.heap.NoLimit) (hg : s₁.gens = #[])
    (ha : s₁.heap.get? a = some { cls := .type "list", data := .seq vs.toArray }) (hi : IntsAre vs ns) (hl : ns.length ≤ 63) (L : ∀ base : Heap, K.In base → base.Ns mainGlobals mg → LawAt P w K mg base fa) :
    codeAny (model P w) callerA (.call (.ref fa) ⟨[.ref a], []⟩) (fun r s' => r = .ok (.ret (.bool true)) ∧ OldK s₁.heap s'.heap ∧ s'.os = s₁.os ∧ AllBare s'.gens) s₁ := by
  have rv := vals_ints hi
  have hz : (ns.map V.int).length ≤ sizeLine := by rw [List.length_map, sizeLine_eq]; omega
  obtain ⟨H, hH⟩ : ∃ H, H = scriptH K a { cls := .type "list", data := .seq vs.toArray } ns := ⟨_, rfl⟩
  have at1 : ∀ b u, H b = some u → b = a ∧ K.lookup a = none ∧ u = .frz { cls := .type "list", data := .seq vs.toArray } (.lst (ns.map V.int)) := fun b u e => by
    rw [hH] at e
    unfold scriptH at e
    split at e
    · rename_i c
      exact ⟨c.1, c.2, (Option.some.inj e).symm⟩
    · cases e
  have hS : SqL K H a (ns.map V.int) := by
    cases hk : K.lookup a with
    | some o =>
      have e := KX a o hk
      rw [ha] at e
      cases e
      exact .inr ⟨_, vs.toArray, _, hk, rfl, rfl, rfl, by rw [List.size_toArray, ← rv.length]; exact hz, by simpa using rv⟩
    | none =>
      refine .inl (.inr ⟨{ cls := .type "list", data := .seq vs.toArray }, ?_⟩)
      rw [hH]
      exact if_pos ⟨rfl, hk⟩
  have hok : HOk P w H s₁.heap := fun b u e => by
    obtain ⟨rfl, _, rfl⟩ := at1 b u e
    exact ⟨ha, hz, vs, _, rv, ha⟩
  have hid : ∀ {b : Addr} {o : Obj}, s₁.heap.get? b = some o → (∀ es ep, o.data = .dict es ep → (hidT s₁.heap H).get? b = some o) := fun {b o} e es ep d => by
    refine hidT_get e ?_
    cases q : H b with
    | none => rfl
    | some u =>
      obtain ⟨rfl, _, _⟩ := at1 b u q
      rw [ha] at e
      cases e
      cases d
  have nsK : ∀ {b : Addr} {m : Str → Option Value}, s₁.heap.Ns b m → (hidT s₁.heap H).Ns b m := fun {b m} ⟨o, es, ep, e, d, r⟩ => ⟨o, es, ep, hid e es ep d, d, r⟩
  have hKb : K.In (hidT s₁.heap H) := fun b o e => hidT_get (KX b o e) (by
    cases q : H b with
    | none => rfl
    | some u =>
      obtain ⟨rfl, h2, _⟩ := at1 b u q
      rw [h2] at e
      cases e)
  obtain ⟨mc, c1, c2⟩ := hlim
  have hM : Mod K mg (hidT s₁.heap H) := ⟨hKb, nsK hns, ⟨mb, nsK hb, hbb⟩, ⟨mc, nsK c1, c2⟩⟩
  have e0 : Env0 P w K mg (hidT s₁.heap H) callerA [] s₁ H := ⟨rfl, hM, fun b o e => of_hidT e, Nat.le_of_eq (hidT_size _ _), trivial, fun b hb => (nomatch (show b ∈ ([] : List Addr) from hb)), hok, .of_eq hg⟩
  refine codeAny_mono (L _ hKb (nsK hns) s₁ H a ns hl hS e0) fun r s' h => ?_
  cases r with
  | error e =>
    obtain ⟨_, _, _, _, _, _, _, _, _, _, _, _, h⟩ := h
    exact h.elim
  | ok fl =>
    cases fl with
    | next => exact False.elim h
    | brk => exact False.elim h
    | cont => exact False.elim h
    | ret u =>
      obtain ⟨v, H', os, bare, un, hok', r', q⟩ := h
      subst q
      cases r'
      refine ⟨rfl, OldK.of_keep fun b o e => ?_, os, bare⟩
      cases q : H b with
      | none => exact un.keep b o e q (fun z => (nomatch (show b ∈ ([] : List Addr) from z))) (fun z => (nomatch (show b ∈ ([] : List Addr) from z)))
      | some u =>
        obtain ⟨rfl, _, rfl⟩ := at1 b u q
        have z2 := un.frzs b _ _ q
        obtain ⟨e1, _⟩ := hok b _ q
        obtain ⟨e2, _⟩ := hok' b _ z2
        rw [e] at e1
        cases e1
        exact e2
end
/-- the law row's walk -/
theorem walk_data {l : PySem.W.OpenLaw} {q : Program} {loose : List Str} {XP : (Str → Option Value) → Heap → Prop} {YP : World → Heap → Prop} {d : DefRec} {K : Params → PySem.W.Frag} (hn : l.most = some 63) (hdf : d.params.defaults = [])
    (hY : ∀ (w : World) (h : Heap), YP w h → (K w.params).In h)
    (F : ∀ (w : World) (mg : Str → Option Value) (fa : Addr) (h : Heap), (K w.params).In h → h.Ns mainGlobals mg → mg d.name = some (.ref fa) → ∀ base : Heap, (K w.params).In base → base.Ns mainGlobals mg → LawAt l.prog w (K w.params) mg base fa) :
    PySem.W.WalkO q loose XP YP l.row.toRowW d [] (fun f vs => PySem.call f vs) := by
  refine Att.attach_call hn hdf fun w s₀ s₁ mg mb fa o pm cd doc a vs ns G Y ho hd hcd hmg hobj hints hlen hg => ?_
  have KX := hY w _ Y
  exact law_top KX G.T.g G.T.b G.T.builtins G.T.nolimit hg hobj hints hlen (F w mg fa _ KX G.T.g hmg)
end DL

/-! The data layer, 14: the end of a law whose defs make lambdas: cs, their code objects, the tables of these, the name. -/
namespace DL
open PySem PySem.Spec PyProof.Rows L2
abbrev Tbs := List (Addr × Addr × Str)
/-- the tables, told by μ -/
def tabMu (cs : Tbs) : Mu := fun b => (cs.find? fun p => decide (p.2.1 = b)).map fun p => .tbl p.2.2
def tabHp (H : Hp) (cs : Tbs) : Hp := fun b => if b ∈ cs.map (·.2.1) then none else H b
def LawAtT (P : Program) (w : World) (K : PySem.W.Frag) (mg : Str → Option Value) (base : Heap) (fa : Addr) (cs : Tbs) : Prop :=
  ∀ (s : Shared) (H : Hp) (a : Addr) (ns : List Int), ns.length ≤ 63 → SqL K H a (ns.map V.int) → (∀ p ∈ cs, H p.2.1 = some (.tbl #[])) → Env0 P w K mg base callerA [] s H →
    codeAny (model P w) callerA (.call (.ref fa) ⟨[.ref a], []⟩) (CR (L2.CX P w) [] P w H s (fun v _ => v = .bl true) (fun _ _ _ => False)) s
def sdLawT (cs : Tbs) : SpD := fun ds μ Q _ => ∃ ns : List Int, ds = [.arg (ns.map .int)] ∧ ns.length ≤ 63 ∧ (∀ b m, tabMu cs b = some m → μ b = some m) ∧ ∀ μ', Q (.bl true) μ'
theorem tabMu_at {cs : Tbs} {b : Addr} {m : MO} (h : tabMu cs b = some m) : ∃ p, p ∈ cs ∧ p.2.1 = b ∧ m = .tbl p.2.2 := by
  obtain ⟨p, hp, e⟩ := Option.map_eq_some_iff.mp h
  exact ⟨p, List.mem_of_find?_eq_some hp, by simpa using List.find?_some hp, e.symm⟩
theorem tab_good {K : PySem.W.Frag} {H : Hp} {cs : Tbs} (h : ∀ p ∈ cs, H p.2.1 = some (.tbl #[])) : Good K (tabHp H cs) H (tabMu cs) where
  ex := fun a o e => by
    unfold tabHp at e
    split at e
    · cases e
    · exact e
  mo := fun a m e => by
    obtain ⟨p, hp, rfl, rfl⟩ := tabMu_at e
    refine ⟨if_pos (List.mem_map.mpr ⟨p, hp, rfl⟩), #[], h p hp, True.intro, fun pos cv hc => ?_⟩
    first | exact absurd hc (by simp [codeAmong]) | cases hc
theorem tab_sq {K : PySem.W.Frag} {H : Hp} {cs : Tbs} {a : Addr} {xs : List V} (h : ∀ p ∈ cs, H p.2.1 = some (.tbl #[])) (q : SqL K H a xs) : SqL K (tabHp H cs) a xs := by
  rcases q with q | q
  · refine .inl ?_
    have n : a ∉ cs.map (·.2.1) := fun hm => by
      obtain ⟨p, hp, rfl⟩ := List.mem_map.mp hm
      rcases q with q | ⟨o, q⟩ <;> rw [h p hp] at q <;> cases q
    rcases q with q | ⟨o, q⟩
    · exact .inl ((if_neg n).trans q)
    · exact .inr ⟨o, (if_neg n).trans q⟩
  · exact .inr q
section
variable {P : Program} {w : World} {K : PySem.W.Frag} {mg : Str → Option Value} {base : Heap}
theorem law_atT {x p : Str} {st : Stmt} {fa : Addr} {N : List Str} {k : Nat} {db : List (Str × Addr) → DS} {cs : Tbs} {oc kV doc pm cdv ct : Value} {od an : Option Addr} {osl : Array (Option Value)}
    (lk : K.lookup fa = some ⟨oc, od, .func (PySem.W.fnOf x x (defArgs st) (defBody st) (defScope st) .none kV doc pm an cdv ct), osl⟩) (hcd : PySem.W.codeIn K cdv x = true) (S : FnScope N [p] (defScope st))
    (bi : ∀ (s : Shared) (u : Value), BindsTo s (PySem.W.fnOf x x (defArgs st) (defBody st) (defScope st) .none kV doc pm an cdv ct) ⟨[u], []⟩ [(p, u)]) (hr : Room (k + 1) callerA)
    (hbody : ∀ (s : Shared) (H : Hp) (E : XK), Room k (callerA.deeper (envOfC x (defScope st) s.heap.objs.size fa cdv)) →
      RSs (cxOf (L2.CX P w) P w K mg base N x (defScope st) fa cdv callerA [] s H E) (fun cls d _ H => E cls d H) (defBody st) (db (cellsFrom (s.heap.objs.size + 1) (defScope st).names [])))
    (pure : ∀ C ds μ Q QE, sdLawT cs ds μ Q QE → db C { nx := fun _ μ' => fin Q .non μ', rt := fin Q, xe := finX QE } (startD N ds) μ) : LawAtT P w K mg base fa cs := by
  intro s H a ns hl hS hT e0
  have old : ∀ b o, base.get? b = some o → s.heap.get? b = some o := fun b o e => (e0.bs b o e).1
  have KX : K.In s.heap := e0.mod.kin.keeps old
  refine codeAny_call_function hr.depth (KX _ _ lk) rfl S.co S.gen rfl (PySem.W.codeRec_of KX hcd) (bi s (.ref a) _ _ _ _ ?_)
  refine wpAny_newFunctionEnv_cells S.kind (fun y hy => ?_) fun env he s1 ic => ?_
  · rw [List.mem_singleton.mp hy]
    rcases S.par p (List.mem_singleton.mpr rfl) with q | q
    · exact .inl q
    · exact .inr ⟨q, PySem.W.cellsFrom_some _ _ _ (.inl q)⟩
  subst he
  refine ⟨(e0.mod.nolimit.keeps old).keeps ic.toInCall.keep, codeAny_func ?_⟩
  have up : upSp K (sdLawT cs) [.ref a] H (fun v _ => v = .bl true) (fun _ _ _ => False) :=
    ⟨tabHp H cs, [.arg (ns.map .int)], tabMu cs, fun d _ => d = .bl true, fun _ _ => False, tab_good hT, .cons (.arg (tab_sq hT hS) RpL.of_ints) .nil, ⟨ns, rfl, hl, fun _ _ h => h, fun _ => rfl⟩,
      ⟨fun v d H2 B2 μ2 e g r q => by subst q; exact r.bl_inv⟩, ⟨fun _ _ _ _ _ _ _ _ _ q => q.elim⟩⟩
  obtain ⟨B, ds, μ, QD, QE, g, r, q, k1, k2⟩ := up
  have run := (hbody s H (fun _ _ _ => False) (hr.deeper _)).pss
  have t0 : upS K (fun cls d _ H => (fun _ _ _ => False : XK) cls d H) (db (cellsFrom (s.heap.objs.size + 1) (defScope st).names [])) { nx := fun _ H' => V.non = .bl true, rt := fun v _ => v = .bl true } (L2.start N [.ref a]) H :=
    ⟨B, _, μ, _, g, start_rel r, pure _ ds μ QD QE q, ⟨fun σ2 ρ2 H2 B2 μ2 e g2 s2 q2 => k1.fin.ok .non .non H2 B2 μ2 e g2 .non q2, fun σ2 ρ2 H2 B2 μ2 e g2 s2 q2 => q2.elim, fun σ2 ρ2 H2 B2 μ2 e g2 s2 q2 => q2.elim, k1.fin, fun σ => ⟨fun cls dx y H2 B2 μ2 e g2 r2 q2 => by
      obtain ⟨μ', l, q2⟩ := q2
      exact k2.ex cls dx y H2 B2 μ' e (g2.less l) r2 q2⟩⟩⟩
  have I : Inv (cxOf (L2.CX P w) P w K mg base N x (defScope st) fa cdv callerA [] s H (fun _ _ _ => False)) [] (L2.start N [.ref a]) H s1 := inv_start (ps := [p]) (us := [.ref a]) S hr.hd e0 rfl (.cons rfl .nil) ic
  refine wpAny_mono (run.run [] s1 _ H _ I t0) (fun fl s' hs => ?_) fun e s' hs => hs
  cases fl with
  | ret u =>
    obtain ⟨v, σ', H', J, rv, q⟩ := hs
    exact ⟨v, H', J.os, J.bare, J.base, J.hok, rv, q⟩
  | next =>
    obtain ⟨σ', H', J, q⟩ := hs
    cases q
  | brk =>
    obtain ⟨_, _, _, q⟩ := hs
    exact False.elim q
  | cont =>
    obtain ⟨_, _, _, q⟩ := hs
    exact False.elim q
/-- the tables, and the script if it is no object of the module -/
def scriptT (K : PySem.W.Frag) (a : Addr) (o : Obj) (ns : List Int) (cs : Tbs) : Hp := fun b => if b ∈ cs.map (·.2.1) then some (.tbl #[]) else scriptH K a o ns b
theorem law_topT {mb : Str → Option Value} {fa a : Addr} {s₁ : Shared} {vs : List Value} {ns : List Int} {cs : Tbs} (KX : K.In s₁.heap) (hns : s₁.heap.Ns mainGlobals mg) (hb : s₁.heap.Ns builtinsNs mb) (hbb : ∀ x : Str, x ≠ "__name__" → mb x = bootBuiltins x) (hlim : s₁.heap.NoLimit) (hg : s₁.gens = #[])
    (hT : ∀ p ∈ cs, s₁.heap.get? p.2.1 = some { cls := .none, data := .fields #[] }) (nT : ∀ p ∈ cs, K.lookup p.2.1 = none) (Cd : ∀ p ∈ cs, PySem.W.CodeHd s₁.heap p.1 p.2.1)
    (hbm : ∃ (bm : Addr) (ob : Obj), mg "__builtins__" = some (.ref bm) ∧ bm ≠ builtinsNs ∧ s₁.heap.get? bm = some ob ∧ ob.cls = .type "module" ∧ ob.dict = some builtinsNs ∧ ob.data = .plain)
    (ha : s₁.heap.get? a = some { cls := .type "list", data := .seq vs.toArray }) (hi : IntsAre vs ns) (hl : ns.length ≤ 63) (L : ∀ base : Heap, K.In base → base.Ns mainGlobals mg → (∀ p ∈ cs, LamX.TabB base mg p.1 p.2.1) → LawAtT P w K mg base fa cs) :
    codeAny (model P w) callerA (.call (.ref fa) ⟨[.ref a], []⟩) (fun r s' => r = .ok (.ret (.bool true)) ∧ OldK s₁.heap s'.heap ∧ s'.os = s₁.os ∧ AllBare s'.gens) s₁ := by
  have rv := vals_ints hi
  have hz : (ns.map V.int).length ≤ sizeLine := by rw [List.length_map, sizeLine_eq]; omega
  obtain ⟨H, hH⟩ : ∃ H, H = scriptT K a { cls := .type "list", data := .seq vs.toArray } ns cs := ⟨_, rfl⟩
  have isT : ∀ b, b ∈ cs.map (·.2.1) → s₁.heap.get? b = some { cls := .none, data := .fields #[] } := fun b hb => by
    obtain ⟨p, hp, rfl⟩ := List.mem_map.mp hb
    exact hT p hp
  have aT : a ∉ cs.map (·.2.1) := fun z => by
    have q := isT a z
    rw [ha] at q
    have z' : Data.seq vs.toArray _ = Data.fields #[] := congrArg Obj.data (Option.some.inj q)
    cases z'
  have at1 : ∀ b u, H b = some u → (b ∈ cs.map (·.2.1) ∧ u = .tbl #[]) ∨ (b = a ∧ K.lookup a = none ∧ u = .frz { cls := .type "list", data := .seq vs.toArray } (.lst (ns.map V.int))) := fun b u e => by
    rw [hH] at e
    unfold scriptT at e
    split at e
    · rename_i c
      exact .inl ⟨c, (Option.some.inj e).symm⟩
    · unfold scriptH at e
      split at e
      · rename_i c
        exact .inr ⟨c.1, c.2, (Option.some.inj e).symm⟩
      · cases e
  have hHT : ∀ p ∈ cs, H p.2.1 = some (.tbl #[]) := fun p hp => by
    rw [hH]
    exact if_pos (List.mem_map.mpr ⟨p, hp, rfl⟩)
  have hS : SqL K H a (ns.map V.int) := by
    cases hk : K.lookup a with
    | some o =>
      have e := KX a o hk
      rw [ha] at e
      cases e
      exact .inr ⟨_, vs.toArray, _, hk, rfl, rfl, rfl, by rw [List.size_toArray, ← rv.length]; exact hz, by simpa using rv⟩
    | none =>
      refine .inl (.inr ⟨{ cls := .type "list", data := .seq vs.toArray }, ?_⟩)
      rw [hH]
      exact (if_neg aT).trans (if_pos ⟨rfl, hk⟩)
  have hok : HOk P w H s₁.heap := fun b u e => by
    rcases at1 b u e with ⟨h1, rfl⟩ | ⟨rfl, _, rfl⟩
    · exact isT b h1
    · exact ⟨ha, hz, vs, _, rv, ha⟩
  have hid : ∀ {b : Addr} {o : Obj}, s₁.heap.get? b = some o → (∀ vs n, o.data ≠ .seq vs n) → o.data ≠ .fields #[] → H b = none := fun {b o} e n1 n2 => by
    cases q : H b with
    | none => rfl
    | some u =>
      rcases at1 b u q with ⟨h1, _⟩ | ⟨rfl, _, _⟩
      · rw [isT b h1] at e
        cases e
        exact (n2 rfl).elim
      · rw [ha] at e
        cases e
        exact (n1 _ _ rfl).elim
  have nsK : ∀ {b : Addr} {m : Str → Option Value}, s₁.heap.Ns b m → (hidT s₁.heap H).Ns b m := fun {b m} ⟨o, es, ep, e, d, r⟩ => ⟨o, es, ep, hidT_get e (hid e (fun vs n z => by rw [d] at z; cases z) (fun z => by rw [d] at z; cases z)), d, r⟩
  have hKb : K.In (hidT s₁.heap H) := fun b o e => hidT_get (KX b o e) (by
    cases q : H b with
    | none => rfl
    | some u =>
      rcases at1 b u q with ⟨h1, _⟩ | ⟨rfl, h2, _⟩
      · obtain ⟨p, hp, rfl⟩ := List.mem_map.mp h1
        rw [nT p hp] at e
        cases e
      · rw [h2] at e
        cases e)
  have TB : ∀ p ∈ cs, LamX.TabB (hidT s₁.heap H) mg p.1 p.2.1 := fun p hp => by
    have tp := hT p hp
    refine ⟨?_, ?_, fun z => ?_⟩
    · obtain ⟨o, us, file, tf, flags, tg, inF, text, tt, e1, r1, r2, r3, rest⟩ := Cd p hp
      exact ⟨o, us, file, tf, flags, tg, inF, text, tt, hidT_get e1 (hid e1 (fun vs n z => by rw [r2] at z; cases z) (fun z => by rw [r2] at z; cases z; simp at r3)), r1, r2, r3, rest⟩
    · obtain ⟨bm, ob, b1, b2, b3, b4, b5, b6⟩ := hbm
      have nG : bm ≠ mainGlobals := fun q => by
        obtain ⟨o, es, ep, e, hd, _⟩ := hns
        rw [q, e] at b3
        cases b3
        rw [hd] at b6
        cases b6
      have nP : bm ≠ p.2.1 := fun q => by
        rw [q, tp] at b3
        cases b3
        cases b6
      exact ⟨bm, ob, b1, b2, nG, nP, hidT_get b3 (hid b3 (fun vs n z => by rw [b6] at z; cases z) (fun z => by rw [b6] at z; cases z)), b4, b5, b6⟩
    · obtain ⟨o, es, ep, e, hd, _⟩ := hns
      rw [z, tp] at e
      cases e
      cases hd
  obtain ⟨mc, c1, c2⟩ := hlim
  have hM : Mod K mg (hidT s₁.heap H) := ⟨hKb, nsK hns, ⟨mb, nsK hb, hbb⟩, ⟨mc, nsK c1, c2⟩⟩
  have e0 : Env0 P w K mg (hidT s₁.heap H) callerA [] s₁ H := ⟨rfl, hM, fun b o e => of_hidT e, Nat.le_of_eq (hidT_size _ _), trivial, fun b hb => (nomatch (show b ∈ ([] : List Addr) from hb)), hok, .of_eq hg⟩
  refine codeAny_mono (L _ hKb (nsK hns) TB s₁ H a ns hl hS hHT e0) fun r s' h => ?_
  cases r with
  | error e =>
    obtain ⟨_, _, _, _, _, _, _, _, _, _, _, _, h⟩ := h
    exact h.elim
  | ok fl =>
    cases fl with
    | next => exact False.elim h
    | brk => exact False.elim h
    | cont => exact False.elim h
    | ret u =>
      obtain ⟨v, H', os, bare, un, hok', r', q⟩ := h
      subst q
      cases r'
      have key : ∀ b o, b ∉ cs.map (·.2.1) → s₁.heap.get? b = some o → s'.heap.get? b = some o := fun b o nb e => by
        cases q : H b with
        | none => exact un.keep b o e q (fun z => (nomatch (show b ∈ ([] : List Addr) from z))) (fun z => (nomatch (show b ∈ ([] : List Addr) from z)))
        | some u =>
          rcases at1 b u q with ⟨h1, _⟩ | ⟨rfl, _, rfl⟩
          · exact absurd h1 nb
          · have z2 := un.frzs b _ _ q
            obtain ⟨e1, _⟩ := hok b _ q
            obtain ⟨e2, _⟩ := hok' b _ z2
            rw [e] at e1
            cases e1
            exact e2
      have grown : ∀ p ∈ cs, ∃ more : Array Value, s'.heap.get? p.2.1 = some { cls := .none, data := .fields more } := fun p hp => by
        obtain ⟨more, z⟩ := un.tbls p.2.1 #[] (hHT p hp)
        exact ⟨_, hok' p.2.1 _ z⟩
      refine ⟨rfl, ⟨fun b o e => ?_, fun b o e => ?_⟩, os, bare⟩
      · by_cases hb : b ∈ cs.map (·.2.1)
        · obtain ⟨p, hp, rfl⟩ := List.mem_map.mp hb
          obtain ⟨more, hm⟩ := grown p hp
          rw [hT p hp] at e
          cases e
          exact .inr (.inl ⟨((Cd p hp).tab (hT p hp)).isCodeTable, rfl, #[], more, rfl, by rw [Array.empty_append]; exact hm⟩)
        · exact .inl (key b o hb e)
      · by_cases hb : b ∈ cs.map (·.2.1)
        · obtain ⟨p, hp, rfl⟩ := List.mem_map.mp hb
          obtain ⟨more, hm⟩ := grown p hp
          exact ⟨_, hm⟩
        · exact ⟨o, key b o hb e⟩
end
/-- the law row's walk -/
theorem walk_dataT {l : PySem.W.OpenLaw} {q : Program} {loose : List Str} {XP : (Str → Option Value) → Heap → Prop} {YP : World → Heap → Prop} {d : DefRec} {K : Params → PySem.W.Frag} (hn : l.most = some 63) (hdf : d.params.defaults = [])
    (hY : ∀ (w : World) (h : Heap), YP w h → (K w.params).In h)
    (F : ∀ (w : World) (mg : Str → Option Value) (fa : Addr) (h : Heap), (K w.params).In h → h.Ns mainGlobals mg → mg d.name = some (.ref fa) →
      ∃ cs : Tbs, (∀ p ∈ cs, ∃ (x : Str) (dr : DefRec), (PyProof.Rows.recsOf q).find? (fun e => e.name == x) = some dr ∧ PySem.W.tabIn (K w.params) x = some (p.1, p.2.1)) ∧ (∀ p ∈ cs, (K w.params).lookup p.2.1 = none) ∧
        ∀ base : Heap, (K w.params).In base → base.Ns mainGlobals mg → (∀ p ∈ cs, LamX.TabB base mg p.1 p.2.1) → LawAtT l.prog w (K w.params) mg base fa cs) :
    PySem.W.WalkO q loose XP YP l.row.toRowW d [] (fun f vs => PySem.call f vs) := by
  refine Att.attach_call hn hdf fun w s₀ s₁ mg mb fa o pm cd doc a vs ns G Y ho hd hcd hmg hobj hints hlen hg => ?_
  have KX := hY w _ Y
  obtain ⟨cs, ht, nT, hF⟩ := F w mg fa _ KX G.T.g hmg
  have tt : ∀ p ∈ cs, PySem.W.CodeHd s₁.heap p.1 p.2.1 ∧ s₁.heap.get? p.2.1 = some { cls := .none, data := .fields #[] } := fun p hp => by
    obtain ⟨x, dr, h1, h2⟩ := ht p hp
    exact PySem.W.tab_of G.T KX h1 h2
  exact law_topT KX G.T.g G.T.b G.T.builtins G.T.nolimit hg (fun p hp => (tt p hp).2) nT (fun p hp => (tt p hp).1) G.T.bmain hobj hints hlen hF
end DL

/-! The data layer, 15: isinstance of an error that is held; is of bools; tuple * int; {}; names of defs and their calls. -/
namespace DL
open PySem PySem.Spec PyProof.Rows L2
/-! ### isinstance of an error that is held -/
theorem class_found {K : PySem.W.Frag} {D : Addr} (C : L2.ExcC K D) (od : Option Obj) : PySem.W.findObj K D od "__class__" = some (.bind (.builtin "getset_descriptor.__get__") (.builtin "object.__class__")) := by
  obtain ⟨cd, hc, _⟩ := PySem.W.any_some C.hd
  unfold PySem.W.findObj
  rw [hc, Option.bind_some, C.ha, Option.bind_some]
  simp [C.hn, C.ht]
section
variable {prog : Program} {w : World} {K : PySem.W.Frag} {x D : Addr} {ox : Obj}
theorem class_of {od : Option Obj} {A : Around} {E : Value → Shared → Prop} {s : Shared} {Q : Option Value → Shared → Prop} (C : L2.ExcC K D) (KI : K.In s.heap) (I : PySem.W.InstAt s.heap x ox D od) (h : Q (some (.ref D)) { s with toks := s.toks + 1 }) :
    wpAny (model prog w) A (getAttr? (.ref x) "__class__") Q E s := by
  obtain ⟨hp, g, d, t, os⟩ := s
  have ty := I.type (M := model prog w)
  have ga := PySem.W.looks_findIn (M := model prog w) KI C.hg
  have gt := PySem.W.looks_findIn (M := model prog w) KI C.hk
  have fd := PySem.W.looks_find (M := model prog w) KI I (class_found C od)
  have isb : PySem.W.Looks (model prog w) hp (isInstance (.ref x) (.type "BaseException")) true := ty.andThen (PySem.W.looks_subIn KI C.hs)
  unfold getAttr? getAttrBy? getAttrBy
  refine wpAny_bind (wpAny_mkText (wpAny_bind (wpAny_attempt (wpAny_holding (wpAny_bind (ty.at (wpAny_bind (ga.at ?_))))))))
  show wpAny _ _ (if (onTheHeap (Value.ref D) && Value.builtin "BaseException.__getattribute__" == Value.builtin "object.__getattribute__") = true then _ else _) _ _ _
  rw [show (onTheHeap (Value.ref D) && Value.builtin "BaseException.__getattribute__" == Value.builtin "object.__getattribute__") = false from (by
    rw [show (Value.builtin "BaseException.__getattribute__" == Value.builtin "object.__getattribute__") = false from (by decide +kernel)]
    rfl), if_neg Bool.false_ne_true]
  unfold getAttrByItsOwn hookBefore
  refine wpAny_bind ?_
  rw [if_pos (show onTheHeap (Value.ref D) = true from rfl)]
  refine gt.at (wpAny_bind (wpAny_attempt (wpAny_holding ?_)))
  unfold callGetattribute
  rw [show (false && onTheHeap (Value.builtin "BaseException.__getattribute__")) = false from rfl, if_neg Bool.false_ne_true]
  unfold boundAndCalled
  rw [PySem.F.excAttr_ValueError.ga.bind (.ref x)]
  refine wpAny_bind (wpAny_pure ?_)
  show wpAny _ _ (call (.builtin "BaseException.__getattribute__") [.ref x, .str "__class__" t]) _ _ _
  refine wpAny_call (codeAny_call_builtin PySem.F.excAttr_ValueError.ga.plain PySem.F.entry_bexc_ga ?_)
  refine @PySem.W.check_slot (model prog w) _ _ ⟨hp, g, d, t + 1, os⟩ "BaseException.__getattribute__" "BaseException" "__getattribute__" (.ref x) [.str "__class__" t] [] _ (by decide +kernel) (by decide +kernel) isb (PySem.F.args_bexc_ga (.ref x) (.str "__class__" t)) ?_
  unfold Builtin.«object.__getattribute__»
  refine wpAny_bind (wpAny_of_eq (a := ((Value.ref x : Value), [Value.str "__class__" t])) (by first | rfl | (simp only [slotArgs]; rfl)) ?_)
  refine wpAny_bind (wpAny_pure (wpAny_bind (ty.at (wpAny_bind (fd.at ?_)))))
  show wpAny _ _ (holding [Value.builtin "object.__class__"] (call (.builtin "getset_descriptor.__get__") [.builtin "object.__class__", .ref x, .ref D]) >>= ret) _ _ _
  refine wpAny_bind (wpAny_holding (wpAny_call (PySem.W.class_get (s := ⟨hp, g, d, t + 1, os⟩) KI I C.hm ?_)))
  refine wpAny_pure ?_
  show wpAny _ _ (handedOut (.ref D)) _ _ _
  rw [PySem.W.handedOut_of (v := .ref D) rfl]
  first
    | exact wpAny_pure (wpAny_pure h)
    | exact wpAny_pure h
    | exact wpAny_pure (wpAny_bind (wpAny_pure (wpAny_pure h)))
theorem kit_exc {od : Option Obj} (C : L2.ExcC K D) : PySem.W.KitX K (.ref x) (.ref D) (fun h => PySem.W.InstAt h x ox D od) := by
  obtain ⟨cd, hc, _⟩ := PySem.W.any_some C.hd
  obtain ⟨c', d', sl', ho⟩ : ∃ c' d' sl', K.lookup D = some ⟨c', d', .cls cd, sl'⟩ := by
    unfold PySem.W.clsIn at hc
    split at hc
    · cases hc
      exact ⟨_, _, _, by assumption⟩
    · cases hc
  exact
    { ty := fun _ _ _ I => I.type
      it := fun _ _ X _ A' Q' E' s' k q => by
        unfold isType loadHead
        exact wpAny_bind (wpAny_loadPart (k _ _ (X _ _ ho)) (wpAny_pure q))
      ne := fun h tp dd its n sl X htp => Bool.eq_false_iff.mpr fun q => by
        have e : D = tp := Value.ref.inj (beq_iff_eq.mp q)
        have z := X _ _ ho
        rw [e, htp] at z
        cases z
      ca := fun X I k => class_of C X I k }
end
/-- isinstance(e, c) of an error that is held -/
def rIsX (K : PySem.W.Frag) : List V → Hp → VK → Prop := fun xs H Q => ∃ (a D C2 : Addr) (dx : Option Addr) (b : Bool), xs = [.ref a, .ref C2] ∧ H a = some (ExV (.ref D) dx a) ∧ (∀ p, dx = some p → ∃ fs, H p = some (.xd fs)) ∧ L2.ExcC K D ∧ PySem.W.kitOne K (.ref D) (.ref C2) = some b ∧ Q (.bl b) H
theorem call_isX {X : Cx} : CallR X (.builtin "isinstance") (rIsX X.K) := by
  intro pins s σ H xs us Q I r h
  obtain ⟨a, D, C2, dx, b, rfl, hA, hX, C, e, q⟩ := h
  cases r with
  | cons rx rr =>
    cases rr with
    | cons rt rr =>
      cases rr
      cases rx
      cases rt
      obtain ⟨⟨oe, vs, h1, h2, h3, h4⟩, _, _⟩ := I.hok a _ hA
      obtain ⟨od, hod⟩ : ∃ od, PySem.W.InstAt s.heap a oe D od := by
        cases dx with
        | none => exact ⟨none, h1, h2, by unfold PySem.W.notCls; rw [h4], by rw [h3]; trivial⟩
        | some p =>
          obtain ⟨fs, hp⟩ := hX p rfl
          obtain ⟨u, hu⟩ := objOk_some (I.hok p _ hp)
          exact ⟨some u, h1, h2, by unfold PySem.W.notCls; rw [h4], by rw [h3]; exact hu⟩
      exact PySem.W.kia_one (kit_exc C) I.kIn hod e (fun z => nomatch z) fun tk => ⟨.bl b, H, I.kept (t' := tk) fun _ _ z => z, rfl, q⟩
/-- what the classes answer: of the class, asked for, told -/
def IsX (K : PySem.W.Frag) (tbl : List (Str × Str × Bool)) : Prop := ∀ p ∈ tbl, ∃ D C2 : Addr, PySem.W.nsIn K mainGlobals p.1 = some (some (.ref D)) ∧ PySem.W.nsIn K mainGlobals p.2.1 = some (some (.ref C2)) ∧ L2.ExcC K D ∧ PySem.W.kitOne K (.ref D) (.ref C2) = some p.2.2
def cdIsX (tbl : List (Str × Str × Bool)) : CD := fun ds μ Q => match ds with
  | [.exc c fs, .cls c2] => ∃ b, (c, c2, b) ∈ tbl ∧ Q (.bl b) μ
  | _ => False
theorem ca_isX {K : PySem.W.Frag} {tbl : List (Str × Str × Bool)} (T : IsX K tbl) : CaD K (rIsX K) (cdIsX tbl) := by
  intro B H μ xs ds QD Q g r q k
  unfold cdIsX at q
  split at q
  · obtain ⟨v, w, rfl, r1, r2⟩ := r.two_inv
    obtain ⟨b, hm, q⟩ := q
    obtain ⟨D, C2, n1, n2, C, e⟩ := T _ hm
    cases r2 with
    | cls n3 =>
      cases n2.symm.trans n3
      cases r1 with
      | exc n4 hB =>
        cases n1.symm.trans n4
        exact ⟨_, D, C2, none, b, rfl, g.ex _ _ hB, (fun p z => by cases z), C, e, k.ok _ _ H B μ Ext.rfl' g (.bl b) q⟩
      | excD n4 hB hD _ =>
        cases n1.symm.trans n4
        refine ⟨_, D, C2, _, b, rfl, g.ex _ _ hB, fun p z => ?_, C, e, k.ok _ _ H B μ Ext.rfl' g (.bl b) q⟩
        cases z
        exact ⟨_, g.ex _ _ hD⟩
  · exact q.elim
/-! ### is of bools -/
def rdIsB : D2 := fun d e μ Q => match d, e with
  | .bl a, .bl b => Q (.bl (decide (a = b))) μ
  | _, _ => False
theorem od_isB {K : PySem.W.Frag} : OpD K rIsB rdIsB := by
  intro B H μ x y d e QD Q g rx ry q k
  unfold rdIsB at q
  split at q
  · cases rx; cases ry
    exact ⟨_, _, rfl, rfl, k.ok _ _ H B μ Ext.rfl' g (.bl _) q⟩
  · exact q.elim
/-! ### tuple * int -/
theorem op_mulT {X : Cx} : OpR X (binaryOp .Mult) (rRepT X.K) := op_repT
def rdMulT : D2 := fun d e μ Q => match d, e with
  | .tup ds, .int k => ds ≠ [] ∧ 2 ≤ k ∧ k ≤ 1000 ∧ ds.length ≤ 1000 ∧ Q (.tup (List.replicate k.toNat ds).flatten) μ
  | _, _ => False
theorem od_mulT {K : PySem.W.Frag} : OpD K (rRepT K) rdMulT := by
  intro B H μ x y d e QD Q g rx ry q k
  unfold rdMulT at q
  split at q
  · obtain ⟨h1, h2, h3, h4, q⟩ := q
    cases ry
    cases rx with
    | tup hT r =>
      refine ⟨_, _, _, rfl, rfl, ext_t g.ex hT, fun z => h1 ?_, h2, h3, by rw [r.length]; exact h4, fun p hp => ?_⟩
      · rw [z] at r; cases r; rfl
      · exact k.ok _ _ _ _ μ (Ext.new (g.freeB hp)) (g.still hp) (.tup (Or.inl (Or.inl upd_same)) ((r.flat _).mono (Ext.new (g.freeB hp)))) q
  · exact q.elim
section
variable {X : Cx} {W : WX} {e a b : Expr} {es : List Expr} {da db : DE} {dr : DA} {pos : Pos}
/-! ### a class or a def by its name -/
theorem re_name {x : Str} {C : Addr} {p : Pos} (hg : Gl X x) (hm : X.mg x = some (.ref C)) (hn : PySem.W.nsIn X.K mainGlobals x = some (some (.ref C))) (hdb : (x == ("__debug__" : Str)) = false := by decide) : RE X W (.Name x p) (dC (.cls x)) :=
  ⟨⟨fun pins s σ H Q I h => by
    obtain ⟨B, ρ, μ, QD, QE, g, sl, q, k, xx⟩ := h
    exact ld_glob I hg hm ⟨.ref C, H, I, rfl, k.ok _ _ H B μ Ext.rfl' g (.cls hn) q⟩ hdb⟩⟩
/-! ### a local name that holds a def is called -/
def HeldD (P : Program) (w : World) (K : PySem.W.Frag) (mg : Str → Option Value) (base : Heap) (k : Nat) (y : Str) (sd : SpD) : Prop := ∃ (st : Stmt) (ps : List Str) (f : Addr), Def P w K mg base k y st ps sd ∧ PySem.W.nsIn K mainGlobals y = some (some (.ref f)) ∧ mg y = some (.ref f)
def dCallV (T : List (Str × SpD)) (da : DE) (dr : DA) : DE := fun ρ μ Q E => da ρ μ (fun d μ1 => ∃ y sd, d = .cls y ∧ (y, sd) ∈ T ∧ dr ρ μ1 (fun ds μ2 => sd ds μ2 Q E) E) E
theorem re_callV {T : List (Str × SpD)} {k : Nat} {x : Str} {p : Pos} (hT : ∀ y sd, (y, sd) ∈ T → HeldD X.prog X.w X.K X.mg X.base k y sd) (hr : Room k X.A) (tk : Takes X W) (hn : RE X W (.Name x p) da) (ha : RA X W (e :: es) dr)
    (he : starEach (e :: es) X.env = (false, eval e X.env) :: starEach es X.env := by rfl) (hpl : (backTo pos (starEach es X.env)).any (·.1) = false := by rfl) : RE X W (.Call (.Name x p) (e :: es) [] pos) (dCallV T da dr) := by
  refine ⟨⟨fun pins s σ H Q I h => ?_⟩⟩
  obtain ⟨B, ρ, μ, QD, QE, g, sl, q, kk, xx⟩ := h
  refine wpAny_Call_Name_kw (thn (hn.pe.run pins s σ H (fun v H1 => ∃ B1 μ1 y sd f, v = .ref f ∧ Ext B B1 ∧ Good X.K B1 H1 μ1 ∧ PySem.W.nsIn X.K mainGlobals y = some (some (.ref f)) ∧ (y, sd) ∈ T ∧ dr ρ μ1 (fun ds μ2 => sd ds μ2 QD QE) QE) I ⟨B, ρ, μ, _, QE, g, sl, q, ⟨fun v d H1 B1 μ1 e1 g1 r1 q1 => ?_⟩, xx⟩) fun u s1 ⟨v, H1, I1, r1, B1, μ1, y, sd, f, ev, e1, g1, hy, hm, q1⟩ => ?_)
  · obtain ⟨y, sd, rfl, hm, q1⟩ := q1
    cases r1 with
    | cls n => exact ⟨B1, μ1, y, sd, _, rfl, e1, g1, n, hm, q1⟩
  · subst ev
    cases r1
    obtain ⟨st, ps, f', ⟨f2, fd, m2, F, hb, G⟩, n3, m3⟩ := hT y sd hm
    cases n3.symm.trans hy
    cases m3.symm.trans m2
    refine PySem.W.callWith_K (h₀ := X.base) I.ok.mod.kin F.kp (thn (ha.pa.run pos pins s1 σ H1 (fun vs H2 => upSp X.K sd vs H2 Q (WE W σ)) I1 ⟨B1, ρ, μ1, _, QE, g1, sl.mono e1, q1, fun vs ds H2 B2 μ2 e2 g2 r2 q2 => ?_, xx.mono e1⟩) fun us s2 ⟨vs, H2, I2, r, q⟩ => ⟨I2.kIn, ?_⟩) he hpl
    · exact ⟨B2, ds, μ2, QD, QE, g2, r2, q2, kk.mono (e1.trans e2), ⟨fun cls dx y H3 B3 μ3 e3 => xx.ex cls dx y H3 B3 μ3 ((e1.trans e2).trans e3)⟩⟩
    · exact run_fnS (E := WE W) G hr hb (passAt tk σ) I2 r q
/-! ### {} -/
def dDict0 : DE := fun _ μ Q _ => ∀ p, μ p = none → Q (.ref p) (mset μ p (.dct []))
theorem re_dict0 : RE X W (.Dict [] [] pos) dDict0 :=
  ⟨PE.imp pe_dnewK fun σ H Q ⟨B, ρ, μ, QD, QE, g, s, q, k, x⟩ => fun p hp => k.ok _ _ _ _ _ Ext.rfl' (g.fresh (m := .dct []) hp ⟨_, upd_same, .nil⟩) (.ref p) (q p (g.free hp))⟩
/-! ### a way into a text -/
def inSt : Stmt → List Stmt
  | .FunctionDef _ _ b _ _ _ _ _ _ _ => b
  | .For _ _ b o _ => b ++ o
  | .While _ b o _ => b ++ o
  | .If _ b o _ => b ++ o
  | _ => []
def exSt : Stmt → List Expr
  | .Return (some e) _ => [e]
  | .Assign _ e _ => [e]
  | .AugAssign _ _ e _ => [e]
  | .For _ e _ _ _ => [e]
  | .While e _ _ _ => [e]
  | .If e _ _ _ => [e]
  | .Expr e _ => [e]
  | _ => []
def inEx : Expr → List Expr
  | .BoolOp _ vs _ => vs
  | .BinOp a _ b _ => [a, b]
  | .UnaryOp _ a _ => [a]
  | .IfExp t a b _ => [t, a, b]
  | .Compare a _ cs _ => a :: cs
  | .Call f as ks _ => f :: (as ++ ks.map (·.value))
  | .Subscript a b _ => [a, b]
  | .List es _ => es
  | .Tuple es _ _ => es
  | _ => []
def noE : Expr := .Constant .none 0 ⟨0, 0, 0, 0⟩
def wayS (st : Stmt) : List Nat → Stmt
  | [] => st
  | i :: r => wayS ((inSt st).getD i (.Pass ⟨0, 0, 0, 0⟩)) r
def wayE (e : Expr) : List Nat → Expr
  | [] => e
  | i :: r => wayE ((inEx e).getD i noE) r
def way (st : Stmt) (ss : List Nat) (es : List Nat) : Expr := wayE ((exSt (wayS st ss)).getD 0 noE) es
/-! ### what the top leaves of these -/
abbrev qn (x : Str) : Str := x ++ ".<locals>."
theorem lam_nil {X : Cx} {k : Nat} : ∀ e de, (e, de) ∈ ([] : List (Expr × DE)) → LamOk X k e de := fun _ _ h => nomatch h
theorem lam_cons {X : Cx} {k : Nat} {e1 : Expr} {d1 : DE} {r : List (Expr × DE)} (h1 : LamOk X k e1 d1) (h2 : ∀ e de, (e, de) ∈ r → LamOk X k e de) : ∀ e de, (e, de) ∈ (e1, d1) :: r → LamOk X k e de := fun e de h => by
  rcases List.mem_cons.mp h with z | z
  · cases z
    exact h1
  · exact h2 e de z
theorem lam_mk {X : Cx} {k : Nat} {e : Expr} {de : DE} {params : Arguments} {body : Expr} {scope : Scope} {pos : Pos} (h : e = .Lambda params body scope pos) (L : LamX.LamS X.env.scope scope)
    (hb : ∀ (q : Str) (cl : List (Str × Addr)) (pm cv ctv : Value), bindArgs (PySem.W.kla_fn "<lambda>" q params body scope cl pm cv ctv) ⟨[], []⟩ = pure [])
    (hbody : ∀ (A : Around) (outer : List Env) (s : Shared) (H : Hp) (E : XK) (f c' : Addr), A.guards = X.A.guards → Room k (A.deeper (LamX.lamEnv X scope s.heap.objs.size f c')) → RE (LamX.lamCx X A outer s H E scope f c') (fun cls d _ H => E cls d H) body de) : LamOk X k e de :=
  ⟨params, body, scope, pos, h, L, hb, hbody⟩
theorem held_nil {P : Program} {w : World} {K : PySem.W.Frag} {mg : Str → Option Value} {base : Heap} {k : Nat} : ∀ y sd, (y, sd) ∈ ([] : List (Str × SpD)) → HeldD P w K mg base k y sd := fun _ _ h => nomatch h
/-- a name of the text that the top leaves -/
def NameOf (K : PySem.W.Frag) (mg : Str → Option Value) (x : Str) : Prop := ∃ f, mg x = some (.ref f) ∧ PySem.W.nsIn K mainGlobals x = some (some (.ref f))
theorem held_cons {P : Program} {w : World} {K : PySem.W.Frag} {mg : Str → Option Value} {base : Heap} {k : Nat} {st : Stmt} {ps : List Str} {y1 : Str} {s1 : SpD} {r : List (Str × SpD)} (D : Def P w K mg base k y1 st ps s1) (n : NameOf K mg y1) (h2 : ∀ y sd, (y, sd) ∈ r → HeldD P w K mg base k y sd) :
    ∀ y sd, (y, sd) ∈ (y1, s1) :: r → HeldD P w K mg base k y sd := fun y sd h => by
  rcases List.mem_cons.mp h with z | z
  · cases z
    obtain ⟨f, h1, h2⟩ := n
    exact ⟨st, ps, f, D, h2, h1⟩
  · exact h2 y sd z
theorem re_nm {x : Str} {p : Pos} (n : NameOf X.K X.mg x) (hg : Gl X x := by rfl) (hdb : (x == ("__debug__" : Str)) = false := by decide) : RE X W (.Name x p) (dC (.cls x)) := by
  obtain ⟨f, h1, h2⟩ := n
  exact re_name hg h1 h2 hdb
theorem tab_mk {K : PySem.W.Frag} {x : Str} {p c P : Addr} {oc oc2 : Value} {od od2 : Option Addr} {fd : FuncData} {sl sl2 : Array (Option Value)} {vs : Array Value} (a : PySem.W.nsIn K mainGlobals x = some (some (.ref p))) (l : K.lookup p = some ⟨oc, od, .func fd, sl⟩) (hc : fd.code = .ref c)
    (t : K.lookup c = some ⟨oc2, od2, .fields vs, sl2⟩) (v : (vs[11]? : Option Value) = some (.ref P)) : PySem.W.tabIn K x = some (c, P) := by
  unfold PySem.W.tabIn
  simp only [a, l, hc, t, v]
/-- isinstance of the class itself -/
theorem kit_self {K : PySem.W.Frag} {t : Value} (h : (t == t) = true) : PySem.W.kitOne K t t = some true := if_pos h
theorem isx_nil {K : PySem.W.Frag} : IsX K [] := fun _ h => nomatch h
theorem isx_cons {K : PySem.W.Frag} {c c2 : Str} {b : Bool} {D C2 : Addr} {r : List (Str × Str × Bool)} (n1 : PySem.W.nsIn K mainGlobals c = some (some (.ref D))) (n2 : PySem.W.nsIn K mainGlobals c2 = some (some (.ref C2))) (C : L2.ExcC K D) (e : PySem.W.kitOne K (.ref D) (.ref C2) = some b) (h : IsX K r) : IsX K ((c, c2, b) :: r) := fun p hp => by
  rcases List.mem_cons.mp hp with z | z
  · cases z
    exact ⟨D, C2, n1, n2, C, e⟩
  · exact h p z
/-- the classes that are caught -/
theorem exm_nil {K : PySem.W.Frag} {CG : Addr} : ∀ c, c ∈ ([] : List Str) → ∀ cls, PySem.W.nsIn K mainGlobals c = some (some cls) → PySem.W.exmOne K cls (.ref CG) = some true := fun _ h => nomatch h
theorem exm_cons {K : PySem.W.Frag} {CG D : Addr} {c1 : Str} {r : List Str} (n : PySem.W.nsIn K mainGlobals c1 = some (some (.ref D))) (s : PySem.W.subIn K (.ref D) (.ref CG) = some true) (h1 : PySem.W.subIn K (.ref CG) (.type "BaseException") = some true) (hd : PySem.W.hasDictIn K CG = true) (ht : PySem.W.typeIn K (.ref CG) = some (.type "type"))
    (h : ∀ c, c ∈ r → ∀ cls, PySem.W.nsIn K mainGlobals c = some (some cls) → PySem.W.exmOne K cls (.ref CG) = some true) : ∀ c, c ∈ c1 :: r → ∀ cls, PySem.W.nsIn K mainGlobals c = some (some cls) → PySem.W.exmOne K cls (.ref CG) = some true := fun c hc cls e => by
  rcases List.mem_cons.mp hc with rfl | z
  · cases n.symm.trans e
    exact PySem.W.exm_ref h1 hd ht s
  · exact h c z cls e
end
end DL

/-! Law k01: its text, its defs' readings. -/
namespace K01
open PySem PySem.Spec PyProof.Rows L2 DL
/-! ### the text (printed by gen.py) -/
def top (i : Nat) : Stmt := PySem.Challenge.pw_gatewords_k01_letters_and_words_judged.main.body.getD i (.Pass ⟨0, 0, 0, 0⟩)
def isxT : List (Str × Str × Bool) := [("BadBack", "BadBack", true), ("BadWord", "BadWord", true)]
def cn__law_caught : List Str := ["BadBack", "BadWord"]
/-- what the top leaves of the names that are read -/
structure Txt (K : PySem.W.Frag) (mg : Str → Option Value) : Prop where
  b_abs : mg "abs" = none
  b_all : mg "all" = none
  b_bool : mg "bool" = none
  b_int : mg "int" = none
  b_isinstance : mg "isinstance" = none
  b_len : mg "len" = none
  b_list : mg "list" = none
  b_min : mg "min" = none
  b_range : mg "range" = none
  b_tuple : mg "tuple" = none
  c_LEAST_LETTERS : ∃ t, mg "LEAST_LETTERS" = some (.int 2 t)
  c_LONGEST_WORD : ∃ t, mg "LONGEST_WORD" = some (.int 200 t)
  c_MOST_LETTERS : ∃ t, mg "MOST_LETTERS" = some (.int 12 t)
  e_BadBack : ExcC K mg "BadBack"
  e_BadWord : ExcC K mg "BadWord"
  g__law_caught : CaughtDef K mg "_law_caught" cn__law_caught
  n_BadBack : NameOf K mg "BadBack"
  n_BadWord : NameOf K mg "BadWord"
  n_free : NameOf K mg "free"
  n_undone : NameOf K mg "undone"
  x_isx : IsX K isxT
abbrev s_is_number : Stmt := top 5
theorem sc_is_number : FnScope ["thing"] ["thing"] (defScope s_is_number) := ⟨rfl, rfl, rfl, by decide +kernel, rfl, by decide +kernel, by decide +kernel⟩
abbrev s_is_between : Stmt := top 6
theorem sc_is_between : FnScope ["thing", "low", "high"] ["thing", "low", "high"] (defScope s_is_between) := ⟨rfl, rfl, rfl, by decide +kernel, rfl, by decide +kernel, by decide +kernel⟩
abbrev s_is_back : Stmt := top 11
theorem sc_is_back : FnScope ["thing", "item", "k"] ["thing"] (defScope s_is_back) := ⟨rfl, rfl, rfl, by decide +kernel, rfl, by decide +kernel, by decide +kernel⟩
abbrev s_need_back : Stmt := top 12
theorem sc_need_back : FnScope ["back"] ["back"] (defScope s_need_back) := ⟨rfl, rfl, rfl, by decide +kernel, rfl, by decide +kernel, by decide +kernel⟩
abbrev s_is_letters : Stmt := top 13
theorem sc_is_letters : FnScope ["back", "thing", "item"] ["back", "thing"] (defScope s_is_letters) := ⟨rfl, rfl, rfl, by decide +kernel, rfl, by decide +kernel, by decide +kernel⟩
abbrev s_is_word : Stmt := top 14
theorem sc_is_word : FnScope ["back", "thing"] ["back", "thing"] (defScope s_is_word) := ⟨rfl, rfl, rfl, by decide +kernel, rfl, by decide +kernel, by decide +kernel⟩
abbrev s_need_word : Stmt := top 15
theorem sc_need_word : FnScope ["back", "thing"] ["back", "thing"] (defScope s_need_word) := ⟨rfl, rfl, rfl, by decide +kernel, rfl, by decide +kernel, by decide +kernel⟩
abbrev s_free_of : Stmt := top 16
theorem sc_free_of : FnScope ["back", "word", "found", "letter"] ["back", "word"] (defScope s_free_of) := ⟨rfl, rfl, rfl, by decide +kernel, rfl, by decide +kernel, by decide +kernel⟩
abbrev s_free : Stmt := top 17
theorem sc_free : FnScope ["back", "word"] ["back", "word"] (defScope s_free) := ⟨rfl, rfl, rfl, by decide +kernel, rfl, by decide +kernel, by decide +kernel⟩
abbrev s_undone_of : Stmt := top 18
theorem sc_undone_of : FnScope ["back", "word", "letter"] ["back", "word"] (defScope s_undone_of) := ⟨rfl, rfl, rfl, by decide +kernel, rfl, by decide +kernel, by decide +kernel⟩
abbrev s_undone : Stmt := top 19
theorem sc_undone : FnScope ["back", "word"] ["back", "word"] (defScope s_undone) := ⟨rfl, rfl, rfl, by decide +kernel, rfl, by decide +kernel, by decide +kernel⟩
abbrev s__law_begun : Stmt := top 21
theorem sc__law_begun : FnScope ["script", "grain", "large"] ["script"] (defScope s__law_begun) := ⟨rfl, rfl, rfl, by decide +kernel, rfl, by decide +kernel, by decide +kernel⟩
abbrev s__law_mixed : Stmt := top 22
theorem sc__law_mixed : FnScope ["draw", "turn", "found", "great", "blend", "grain"] ["draw"] (defScope s__law_mixed) := ⟨rfl, rfl, rfl, by decide +kernel, rfl, by decide +kernel, by decide +kernel⟩
abbrev s__law_take : Stmt := top 23
theorem sc__law_take : FnScope ["draw", "amount", "found"] ["draw", "amount"] (defScope s__law_take) := ⟨rfl, rfl, rfl, by decide +kernel, rfl, by decide +kernel, by decide +kernel⟩
abbrev s__law_pick : Stmt := top 24
theorem sc__law_pick : FnScope ["draw", "some"] ["draw", "some"] (defScope s__law_pick) := ⟨rfl, rfl, rfl, by decide +kernel, rfl, by decide +kernel, by decide +kernel⟩
abbrev s__law_shuffled : Stmt := top 25
theorem sc__law_shuffled : FnScope ["draw", "some", "left", "found"] ["draw", "some"] (defScope s__law_shuffled) := ⟨rfl, rfl, rfl, by decide +kernel, rfl, by decide +kernel, by decide +kernel⟩
abbrev s__law_is_truth : Stmt := top 26
theorem sc__law_is_truth : FnScope ["found", "due"] ["found", "due"] (defScope s__law_is_truth) := ⟨rfl, rfl, rfl, by decide +kernel, rfl, by decide +kernel, by decide +kernel⟩
abbrev s__law_back : Stmt := top 28
theorem sc__law_back : FnScope ["draw", "line", "many", "left_here", "found", "one", "other"] ["draw"] (defScope s__law_back) := ⟨rfl, rfl, rfl, by decide +kernel, rfl, by decide +kernel, by decide +kernel⟩
abbrev s__law_word : Stmt := top 29
theorem sc__law_word : FnScope ["draw", "back_here", "most", "k"] ["draw", "back_here", "most"] (defScope s__law_word) := ⟨rfl, rfl, rfl, by decide +kernel, rfl, by decide +kernel, by decide +kernel⟩
abbrev s__law_is_back : Stmt := top 30
theorem sc__law_is_back : FnScope ["thing", "item", "k"] ["thing"] (defScope s__law_is_back) := ⟨rfl, rfl, rfl, by decide +kernel, rfl, by decide +kernel, by decide +kernel⟩
abbrev s__law_is_word : Stmt := top 31
theorem sc__law_is_word : FnScope ["back_here", "thing", "item"] ["back_here", "thing"] (defScope s__law_is_word) := ⟨rfl, rfl, rfl, by decide +kernel, rfl, by decide +kernel, by decide +kernel⟩
abbrev s_law : Stmt := top 32
theorem sc_law : FnScope ["script", "draw", "turn", "back_here", "wide", "spot", "bent", "value", "due", "work", "word_here", "long", "near", "ask"] ["script"] (defScope s_law) := ⟨rfl, rfl, rfl, by decide +kernel, rfl, by decide +kernel, by decide +kernel⟩
abbrev s__law_caught : Stmt := top 27
theorem sc__law_caught : FnScope ["work", "caught", "error"] ["work"] (defScope s__law_caught) := ⟨rfl, rfl, rfl, by decide +kernel, rfl, by decide +kernel, by decide +kernel⟩
def lam_law_0 : Expr := way s_law [1, 4, 3] [0]
def lam_law_1 : Expr := way s_law [1, 4, 3] [1]
def lam_law_2 : Expr := way s_law [1, 4, 4] [0, 1, 1]
def lam_law_3 : Expr := way s_law [1, 8, 3, 0] [1, 0, 1]
def lam_law_4 : Expr := way s_law [1, 8, 4] [1, 0, 1, 1]
def lam_law_5 : Expr := way s_law [1, 8, 5] [1, 0, 1, 1]
def sd__law_is_truth : SpD := fun ds μ Q _ => ∃ a b : Bool, ds = [.bl a, .bl b] ∧ Q (.bl (decide (a = b))) μ
/-- a value to be judged -/
def Vl (μ : Mu) (d : D) : Prop := TyA μ d ∧ ∀ xs, d = .tup xs → xs.length < 1000 ∧ ∀ x ∈ xs, PyOk 63 x
def sd__law_is_back : SpD := fun ds μ Q _ => ∃ d, ds = [d] ∧ Vl μ d ∧ Q (.bl (isBackD d)) μ
def sd__law_is_word : SpD := fun ds μ Q _ => ∃ bs d, ds = [.tup bs, d] ∧ Vl μ d ∧ Q (.bl (isWd bs.length d)) μ
/-- slots: 0 found, 1 due -/
def db__law_is_truth : DS :=
  (sRet (dIf (dTest (dVar 1)) (dOp rdIsB (dVar 0) (dC (.bl true))) (dOp rdIsB (dVar 0) (dC (.bl false)))))
/-- slots: 0 thing, 1 item, 2 k -/
def db__law_is_back : DS :=
  (sSeq (sIf (dOr (dNot (dTest (dCB cdIsi (dCons (dVar 0) (dCons (dC (.ty "tuple")) dNil))))) (dNot (dTest (dChain (rdB0 fun i j => decide (i ≤ j)) (rdB0 fun i j => decide (i ≤ j)) (dC (.int 2)) (dCB cdLen (dCons (dVar 0) dNil)) (dC (.int 12)))))) (sRet (dC (.bl false))) sNext)
    (sSeq (sIf (dTest (dOp (rdEq true) (dLc false (iSeqD (dVar 0)) (dName 1) (dOr (dTest (dCB cdIsi (dCons (dVar 1) (dCons (dC (.ty "bool")) dNil)))) (dOr (dNot (dTest (dCB cdIsi (dCons (dVar 1) (dCons (dC (.ty "int")) dNil))))) (dNot (dTest (dChain (rdB0 fun i j => decide (i ≤ j)) (rdB0 fun i j => decide (i < j)) (dC (.int 0)) (dVar 1) (dCB cdLen (dCons (dVar 0) dNil))))))) (dVar 1) [1]) (dLst dNil))) (sRet (dC (.bl false))) sNext)
    (sRet (dOp (rdEq false) (dLc false (iRng1D (dCB cdLen (dCons (dVar 0) dNil))) (dName 2) (dTest (dOp (rdEq true) (dOp rdIx (dVar 0) (dOp rdIx (dVar 0) (dVar 2))) (dVar 2))) (dVar 2) [2]) (dLst dNil)))))
/-- slots: 0 back_here, 1 thing, 2 item -/
def db__law_is_word : DS :=
  (sSeq (sIf (dOr (dNot (dTest (dCB cdIsi (dCons (dVar 1) (dCons (dC (.ty "tuple")) dNil))))) (dTest (dOp (rdB0 fun i j => decide (j < i)) (dCB cdLen (dCons (dVar 1) dNil)) (dC (.int 200))))) (sRet (dC (.bl false))) sNext)
    (sRet (dOp (rdEq false) (dLc false (iSeqD (dVar 1)) (dName 2) (dOr (dTest (dCB cdIsi (dCons (dVar 2) (dCons (dC (.ty "bool")) dNil)))) (dOr (dNot (dTest (dCB cdIsi (dCons (dVar 2) (dCons (dC (.ty "int")) dNil))))) (dNot (dTest (dChain (rdB0 fun i j => decide (i ≤ j)) (rdB0 fun i j => decide (i < j)) (dC (.int 0)) (dVar 2) (dCB cdLen (dCons (dVar 0) dNil))))))) (dVar 2) [2]) (dLst dNil))))
def de_law_0 : DE :=
  (dCall sd_is_word (dCons (dVar 7) (dCons (dC .non) dNil)))
def de_law_1 : DE :=
  (dCall sd_free (dCons (dVar 7) (dCons (dC .non) dNil)))
def de_law_2 : DE :=
  (dCall sd_undone (dCons (dVar 7) (dCons (dC .non) dNil)))
def de_law_3 : DE :=
  (dCallV [("free", sd_free), ("undone", sd_undone)] (dVar 13) (dCons (dVar 3) (dCons (dVar 7) dNil)))
def de_law_4 : DE :=
  (dCall sd_free (dCons (dVar 3) (dCons (dVar 7) dNil)))
def de_law_5 : DE :=
  (dCall sd_undone (dCons (dVar 3) (dCons (dVar 7) dNil)))
def lt_law : List (Expr × DE) := [(lam_law_0, de_law_0), (lam_law_1, de_law_1), (lam_law_2, de_law_2), (lam_law_3, de_law_3), (lam_law_4, de_law_4), (lam_law_5, de_law_5)]
def db_law_18 (PT : Addr) (C : List (Str × Addr)) : DS :=
  (sIf (dNot (dTest (dCB (cdIsX isxT) (dCons (dCaught C (qn "law") lt_law cn__law_caught (dLam PT lam_law_2 C (qn "law"))) (dCons (dC (.cls "BadBack")) dNil))))) (sRet (dC (.bl false))) sNext)
def db_law_13 (PT : Addr) (C : List (Str × Addr)) : DS :=
  (sSeq (sFor (iSeqD (dLst (dCons (dLam PT lam_law_0 C (qn "law")) (dCons (dLam PT lam_law_1 C (qn "law")) dNil)))) (dName 9) (sIf (dNot (dTest (dCB (cdIsX isxT) (dCons (dCaught C (qn "law") lt_law cn__law_caught (dVar 9)) (dCons (dC (.cls "BadBack")) dNil))))) (sRet (dC (.bl false))) sNext))
    (db_law_18 PT C))
def db_law_8 (PT : Addr) (C : List (Str × Addr)) : DS :=
  (sSeq (sAsg (dCall sd__law_is_back (dCons (dVar 7) dNil)) (dName 8))
    (sSeq (sIf (dOr (dNot (dTest (dCall sd__law_is_truth (dCons (dCall sd_is_back (dCons (dVar 7) dNil)) (dCons (dVar 8) dNil))))) (dNot (dTest (dCall sd__law_is_truth (dCons (dCallK sd_is_back [0] (dCons (dVar 7) dNil)) (dCons (dVar 8) dNil)))))) (sRet (dC (.bl false))) sNext)
    (sSeq (sIf (dTest (dVar 8)) sCont sNext)
    (db_law_13 PT C))))
def db_law_37 (PT : Addr) (C : List (Str × Addr)) : DS :=
  (sIf (dAnd (dNot (dTest (dVar 8))) (dNot (dTest (dCB (cdIsX isxT) (dCons (dCaught C (qn "law") lt_law cn__law_caught (dLam PT lam_law_5 C (qn "law"))) (dCons (dC (.cls "BadWord")) dNil)))))) (sRet (dC (.bl false))) sNext)
def db_law_34 (PT : Addr) (C : List (Str × Addr)) : DS :=
  (sSeq (sIf (dAnd (dNot (dTest (dVar 8))) (dNot (dTest (dCB (cdIsX isxT) (dCons (dCaught C (qn "law") lt_law cn__law_caught (dLam PT lam_law_4 C (qn "law"))) (dCons (dC (.cls "BadWord")) dNil)))))) (sRet (dC (.bl false))) sNext)
    (db_law_37 PT C))
def db_law_30 (PT : Addr) (C : List (Str × Addr)) : DS :=
  (sSeq (sFor (iSeqD (dLst (dCons (dC (.cls "free")) (dCons (dC (.cls "undone")) dNil)))) (dName 13) (sIf (dTest (dOp (rdEq true) (dVar 8) (dIsN false (dCaught C (qn "law") lt_law cn__law_caught (dLam PT lam_law_3 C (qn "law")))))) (sRet (dC (.bl false))) sNext))
    (db_law_34 PT C))
def db_law_28 (PT : Addr) (C : List (Str × Addr)) : DS :=
  (sSeq (sIf (dAnd (dTest (dVar 8)) (dTest (dOp (rdEq true) (dVar 7) (dVar 11)))) sCont sNext)
    (db_law_30 PT C))
def db_law_25 (PT : Addr) (C : List (Str × Addr)) : DS :=
  (sSeq (sAsg (dCall sd__law_is_word (dCons (dVar 3) (dCons (dVar 7) dNil))) (dName 8))
    (sSeq (sIf (dOr (dNot (dTest (dCall sd__law_is_truth (dCons (dCall sd_is_word (dCons (dVar 3) (dCons (dVar 7) dNil))) (dCons (dVar 8) dNil))))) (dNot (dTest (dCall sd__law_is_truth (dCons (dCallK sd_is_word [1, 0] (dCons (dVar 7) (dCons (dVar 3) dNil))) (dCons (dVar 8) dNil)))))) (sRet (dC (.bl false))) sNext)
    (db_law_28 PT C)))
def db_law_24 (PT : Addr) (C : List (Str × Addr)) : DS :=
  (sFor (iSeqD (dLst (dCons (dVar 10) (dCons (dVar 12) (dCons (dCB cdList (dCons (dVar 10) dNil)) (dCons (dVar 11) (dCons (dOp rdAdd (dVar 11) (dTup (dCons (dC (.int 0)) dNil))) (dCons (dC .non) (dCons (dC (.int 5)) (dCons (dC (.str "word")) (dCons dDict0 dNil))))))))))) (dName 7) (db_law_25 PT C))
def db_law_23 (PT : Addr) (C : List (Str × Addr)) : DS :=
  (sSeq (sAsg (dOp rdAdd (dVar 10) (dTup (dCons (dCall sd__law_pick (dCons (dVar 1) (dCons (dLst (dCons (dCB cdLen (dCons (dVar 3) dNil)) (dCons (dNeg (dC (.int 1))) (dCons (dC (.bl true)) (dCons (dC .non) (dCons (dC (.str "0")) (dCons (dTup (dCons (dC (.int 0)) dNil)) dNil))))))) dNil))) dNil))) (dName 12))
    (db_law_24 PT C))
def db_law_22 (PT : Addr) (C : List (Str × Addr)) : DS :=
  (sSeq (sAsg (dOp rdMulT (dTup (dCons (dC (.int 0)) (dCons (dC (.int 1)) dNil))) (dC (.int 100))) (dName 11))
    (db_law_23 PT C))
def db_law_21 (PT : Addr) (C : List (Str × Addr)) : DS :=
  (sSeq (sAsg (dCall sd__law_word (dCons (dVar 1) (dCons (dVar 3) (dCons (dC (.int 9)) dNil)))) (dName 10))
    (db_law_22 PT C))
def db_law_7 (PT : Addr) (C : List (Str × Addr)) : DS :=
  (sSeq (sFor (iSeqD (dLst (dCons (dVar 3) (dCons (dVar 4) (dCons (dVar 6) (dCons (dCB cdList (dCons (dVar 3) dNil)) (dCons (dSlice (dVar 3) oNone (oSome (dC (.int 1)))) (dCons (dTup dNil) (dCons (dC .non) (dCons (dC (.int 5)) (dCons (dC (.str "back")) (dCons (dTup (dCons (dC (.int 0)) dNil)) (dCons (dTup (dCons (dC (.int 1)) (dCons (dC (.int 0)) (dCons (dC (.int 2)) dNil)))) (dCons (dTup (dCons (dC (.int 1)) (dCons (dC (.int 2)) (dCons (dC (.int 0)) dNil)))) (dCons (dOp rdMulT (dTup (dCons (dC (.int 0)) dNil)) (dC (.int 2))) dNil))))))))))))))) (dName 7) (db_law_8 PT C))
    (db_law_21 PT C))
def db_law_6 (PT : Addr) (C : List (Str × Addr)) : DS :=
  (sSeq (sAsg (dOp rdAdd (dOp rdAdd (dSlice (dVar 3) oNone (oSome (dVar 5))) (dTup (dCons (dCall sd__law_pick (dCons (dVar 1) (dCons (dLst (dCons (dCall sd__law_take (dCons (dVar 1) (dCons (dC (.int 13)) dNil))) (dCons (dNeg (dC (.int 1))) (dCons (dC (.bl true)) (dCons (dC .non) (dCons (dC (.str "0")) (dCons (dTup (dCons (dC (.int 0)) dNil)) dNil))))))) dNil))) dNil))) (dSlice (dVar 3) (oSome (dOp rdAdd (dVar 5) (dC (.int 1)))) oNone)) (dName 6))
    (db_law_7 PT C))
def db_law_5 (PT : Addr) (C : List (Str × Addr)) : DS :=
  (sSeq (sAsg (dCall sd__law_take (dCons (dVar 1) (dCons (dCB cdLen (dCons (dVar 3) dNil)) dNil))) (dName 5))
    (db_law_6 PT C))
def db_law_4 (PT : Addr) (C : List (Str × Addr)) : DS :=
  (sSeq (sAsg (dOp rdAdd (dVar 3) (dRgT (gRg2 (dCB cdLen (dCons (dVar 3) dNil)) (dCall sd__law_pick (dCons (dVar 1) (dCons (dLst (dCons (dC (.int 12)) (dCons (dC (.int 13)) (dCons (dOp rdAdd (dCB cdLen (dCons (dVar 3) dNil)) (dC (.int 1))) dNil)))) dNil)))))) (dName 4))
    (db_law_5 PT C))
/-- slots: 0 script, 1 draw, 2 turn, 3 back_here, 4 wide, 5 spot, 6 bent, 7 value, 8 due, 9 work, 10 word_here, 11 long, 12 near, 13 ask -/
def db_law (PT : Addr) (C : List (Str × Addr)) : DS :=
  (sSeq (sAsg (dCall sd__law_begun (dCons (dVar 0) dNil)) (dName 1))
    (sSeq (sFor (iRng1D (dOp rdAdd (dC (.int 2)) (dCB cdMin2 (dCons (dCB cdLen (dCons (dVar 0) dNil)) (dCons (dC (.int 6)) dNil))))) (dName 2) (sSeq (sAsg (dCall sd__law_back (dCons (dVar 1) dNil)) (dName 3))
    (db_law_4 PT C)))
    (sRet (dC (.bl true)))))
end K01

/-! Law k01: the law's own judges. -/
namespace K01
open PySem PySem.Spec PyProof.Rows L2 DL
theorem pu__law_is_truth (ds : List D) (μ : Mu) (Q : DQ) (QE : XQ) (h : sd__law_is_truth ds μ Q QE) : db__law_is_truth { nx := fun _ μ' => fin Q .non μ', rt := fin Q, xe := finX QE } (startD ["found", "due"] ds) μ := by
  obtain ⟨a, b, rfl, k⟩ := h
  unfold db__law_is_truth
  cases b with
  | true =>
    refine ⟨_, rfl, true, rfl, ?_⟩
    show (if true = true then (_ : Prop) else _)
    rw [if_pos rfl]
    exact ⟨_, rfl, fin_self k⟩
  | false =>
    refine ⟨_, rfl, false, rfl, ?_⟩
    show (if false = true then (_ : Prop) else _)
    rw [if_neg Bool.false_ne_true]
    exact ⟨_, rfl, fin_self k⟩
/-- the items that are no letters below n -/
def badOf (n : Int) (x : D) : Option D := if btw x 0 (n - 1) = true then none else some x
theorem bad_nil {n : Int} : ∀ xs : List D, (xs.filterMap (badOf n)).isEmpty = xs.all fun x => btw x 0 (n - 1)
  | [] => rfl
  | x :: xs => by
    rw [List.filterMap_cons, List.all_cons]
    unfold badOf
    by_cases c : btw x 0 (n - 1) = true
    · rw [if_pos c, c, Bool.true_and]
      exact bad_nil xs
    · rw [if_neg c]
      have c : btw x 0 (n - 1) = false := by simpa using c
      rw [c, Bool.false_and]
      rfl
theorem bad_mem {n : Int} {xs : List D} {x : D} (h : x ∈ xs.filterMap (badOf n)) : x ∈ xs := by
  obtain ⟨y, h1, h2⟩ := List.mem_filterMap.mp h
  unfold badOf at h2
  split at h2
  · cases h2
  · cases h2
    exact h1
theorem ty_le {μ μ' : Mu} {d : D} {t : String} (l : Le μ μ') (h : tyD μ d = some t) : tyD μ' d = some t := by
  cases d with
  | ref a =>
    have h : (match μ a with | some (.lst _) => some "list" | some (.dct _) => some "dict" | _ => none) = some t := h
    show (match μ' a with | some (.lst _) => some "list" | some (.dct _) => some "dict" | _ => none) = some t
    cases e : μ a with
    | none => rw [e] at h; cases h
    | some m => rw [l _ _ e]; rw [e] at h; exact h
  | _ => exact h
theorem bad_test {n : Nat} {x : D} {μ μ' : Mu} {R1 : DQ} {R2 : Mu → Prop} (hx : DL.Ty μ x) (hl : Le μ μ') (h1 : ∀ y, badOf n x = some y → R1 y μ') (h2 : badOf n x = none → R2 μ') :
    ∃ t b, tyD μ' x = some t ∧ kitB t "bool" = some b ∧ if b = true then R1 x μ' else ∃ t b, tyD μ' x = some t ∧ kitB t "int" = some b ∧ if (!b) = true then R1 x μ' else
      match (generalizing := false) D.int 0, x with
      | D.int i, D.int j => if i ≤ j then (match (generalizing := false) x, D.int (n : Int) with
          | D.int i, D.int j => if (!decide (i < j)) = true then R1 x μ' else R2 μ'
          | _, _ => False) else if (!false) = true then R1 x μ' else R2 μ'
      | _, _ => False := by
  obtain ⟨t1, ht1⟩ := hx
  have ht := ty_le hl ht1
  have KT := kit_ty' ht
  cases x with
  | int j =>
    refine ⟨t1, false, ht, KT.b, ?_⟩
    rw [if_neg Bool.false_ne_true]
    refine ⟨t1, true, ht, KT.i, ?_⟩
    show (if (0 : Int) ≤ j then (if (!decide (j < (n : Int))) = true then R1 (.int j) μ' else R2 μ') else R1 (.int j) μ')
    by_cases c : 0 ≤ j
    · rw [if_pos c]
      by_cases c2 : j < n
      · rw [if_neg (by simpa using c2)]
        exact h2 (if_pos (by simp only [btw, Bool.and_eq_true, decide_eq_true_eq]; omega))
      · rw [if_pos (by simpa using c2)]
        exact h1 _ (if_neg (by simp only [btw, Bool.and_eq_true, decide_eq_true_eq]; omega))
    · rw [if_neg c]
      exact h1 _ (if_neg (by simp only [btw, Bool.and_eq_true, decide_eq_true_eq]; omega))
  | bl b => exact ⟨t1, true, ht, KT.b, h1 _ rfl⟩
  | _ =>
    refine ⟨t1, false, ht, KT.b, ?_⟩
    rw [if_neg Bool.false_ne_true]
    exact ⟨t1, false, ht, KT.i, h1 _ rfl⟩
theorem pu__law_is_word (ds : List D) (μ : Mu) (Q : DQ) (QE : XQ) (h : sd__law_is_word ds μ Q QE) : db__law_is_word { nx := fun _ μ' => fin Q .non μ', rt := fin Q, xe := finX QE } (startD ["back_here", "thing", "item"] ds) μ := by
  obtain ⟨bs, d, rfl, ⟨⟨⟨t, ht⟩, hx⟩, hz⟩, k⟩ := h
  have k3 := (kit_ty' ht).u
  unfold db__law_is_word
  simp only [sSeq, sAsg, sRet, sRetN, sDrop, sIf, sPar, sDPutD, sNext, sBrk, sCont, sRaise, sAugI, sFor, sFreeze, dVar, dC, dOp, dTest, dAnd, dOr, dNot, dAndV, dOrV, dNotV, dIf, dChain, dTup, dLst, dLstM, dNil, dCons, dCB, dCall, dCallK, dRev, dSlice, oNone, oSome, dIsN, dNeg, dDGet, dDict, dPs, dPop, dPopAt, dAppend, dLc, dRgL, dRgT, gRg1, gRg2, iSeqD, iRng1D, iRng2D, tTrue, rdAdd, rdI, rdI0, rdB0, rdIx, rdMul, cdLen, cdAbs, cdInt, cdMin2, cdMax2, cdTup, cdList, cdListM, cdAll, cdAny, cdIsi, dName, dGTup, dGCons, dGNil, dGSub, startD, wipeD, seqOf, DL.listOf, keepOf, List.map_cons, List.map_nil, List.length_cons, List.length_nil, List.cons_append, List.nil_append, Nat.reduceAdd, Nat.reduceSub, List.replicate_succ, List.replicate_zero, List.replicate, List.set_cons_zero, List.set_cons_succ, List.getElem?_cons_zero, List.getElem?_cons_succ, Int.reduceToNat, Int.reduceNeg, Bool.false_eq_true, if_true, if_false, decide_eq_true_eq, Option.some.injEq, exists_eq_left', exists_eq_left, true_and, and_true, D.key, D.int.injEq, D.bl.injEq, D.tup.injEq, D.ref.injEq, D.lst.injEq, D.arg.injEq, dCaught, dLam, dCallV, rdIsB, rdMulT, cdIsX, dDict0]
  refine ⟨t, _, ht, k3, ?_⟩
  cases e : isTupD d with
  | false =>
    rw [if_pos (by rfl)]
    have : isWd bs.length d = false := by cases d <;> first | rfl | cases e
    rw [this] at k
    exact fin_self k
  | true =>
    rw [if_neg (by decide)]
    cases d with
    | tup xs =>
      have hx := hx xs rfl
      obtain ⟨hz, hp⟩ := hz xs rfl
      simp only [sSeq, sAsg, sRet, sRetN, sDrop, sIf, sPar, sDPutD, sNext, sBrk, sCont, sRaise, sAugI, sFor, sFreeze, dVar, dC, dOp, dTest, dAnd, dOr, dNot, dAndV, dOrV, dNotV, dIf, dChain, dTup, dLst, dLstM, dNil, dCons, dCB, dCall, dCallK, dRev, dSlice, oNone, oSome, dIsN, dNeg, dDGet, dDict, dPs, dPop, dPopAt, dAppend, dLc, dRgL, dRgT, gRg1, gRg2, iSeqD, iRng1D, iRng2D, tTrue, rdAdd, rdI, rdI0, rdB0, rdIx, rdMul, cdLen, cdAbs, cdInt, cdMin2, cdMax2, cdTup, cdList, cdListM, cdAll, cdAny, cdIsi, dName, dGTup, dGCons, dGNil, dGSub, startD, wipeD, seqOf, DL.listOf, keepOf, List.map_cons, List.map_nil, List.length_cons, List.length_nil, List.cons_append, List.nil_append, Nat.reduceAdd, Nat.reduceSub, List.replicate_succ, List.replicate_zero, List.replicate, List.set_cons_zero, List.set_cons_succ, List.getElem?_cons_zero, List.getElem?_cons_succ, Int.reduceToNat, Int.reduceNeg, Bool.false_eq_true, if_true, if_false, decide_eq_true_eq, Option.some.injEq, exists_eq_left', exists_eq_left, true_and, and_true, D.key, D.int.injEq, D.bl.injEq, D.tup.injEq, D.ref.injEq, D.lst.injEq, D.arg.injEq, dCaught, dLam, dCallV, rdIsB, rdMulT, cdIsX, dDict0]
      by_cases c : (200 : Int) < xs.length
      · rw [if_pos c]
        have e2 : isWd bs.length (.tup xs) = false := by
          unfold isWd
          rw [show decide (lenD (.tup xs) ≤ 200) = false from decide_eq_false (by show ¬ ((xs.length : Int) ≤ 200); omega), Bool.and_false]
        rw [e2] at k
        exact fin_self k
      · rw [if_neg c]
        refine lc_pure (badOf bs.length) (sl_ok (by omega)) (fun _ _ _ => trivial) (fun i x μ' R1 R2 hx1 hl h1 h2 => ?_) (fun p hp2 => ?_)
        · simp only [sSeq, sAsg, sRet, sRetN, sDrop, sIf, sPar, sDPutD, sNext, sBrk, sCont, sRaise, sAugI, sFor, sFreeze, dVar, dC, dOp, dTest, dAnd, dOr, dNot, dAndV, dOrV, dNotV, dIf, dChain, dTup, dLst, dLstM, dNil, dCons, dCB, dCall, dCallK, dRev, dSlice, oNone, oSome, dIsN, dNeg, dDGet, dDict, dPs, dPop, dPopAt, dAppend, dLc, dRgL, dRgT, gRg1, gRg2, iSeqD, iRng1D, iRng2D, tTrue, rdAdd, rdI, rdI0, rdB0, rdIx, rdMul, cdLen, cdAbs, cdInt, cdMin2, cdMax2, cdTup, cdList, cdListM, cdAll, cdAny, cdIsi, dName, dGTup, dGCons, dGNil, dGSub, startD, wipeD, seqOf, DL.listOf, keepOf, List.map_cons, List.map_nil, List.length_cons, List.length_nil, List.cons_append, List.nil_append, Nat.reduceAdd, Nat.reduceSub, List.replicate_succ, List.replicate_zero, List.replicate, List.set_cons_zero, List.set_cons_succ, List.getElem?_cons_zero, List.getElem?_cons_succ, Int.reduceToNat, Int.reduceNeg, Bool.false_eq_true, if_true, if_false, decide_eq_true_eq, Option.some.injEq, exists_eq_left', exists_eq_left, true_and, and_true, D.key, D.int.injEq, D.bl.injEq, D.tup.injEq, D.ref.injEq, D.lst.injEq, D.arg.injEq, dCaught, dLam, dCallV, rdIsB, rdMulT, cdIsX, dDict0]
          exact bad_test (hx x (List.mem_of_getElem? hx1)) hl h1 h2
        · simp only [sSeq, sAsg, sRet, sRetN, sDrop, sIf, sPar, sDPutD, sNext, sBrk, sCont, sRaise, sAugI, sFor, sFreeze, dVar, dC, dOp, dTest, dAnd, dOr, dNot, dAndV, dOrV, dNotV, dIf, dChain, dTup, dLst, dLstM, dNil, dCons, dCB, dCall, dCallK, dRev, dSlice, oNone, oSome, dIsN, dNeg, dDGet, dDict, dPs, dPop, dPopAt, dAppend, dLc, dRgL, dRgT, gRg1, gRg2, iSeqD, iRng1D, iRng2D, tTrue, rdAdd, rdI, rdI0, rdB0, rdIx, rdMul, cdLen, cdAbs, cdInt, cdMin2, cdMax2, cdTup, cdList, cdListM, cdAll, cdAny, cdIsi, dName, dGTup, dGCons, dGNil, dGSub, startD, wipeD, seqOf, DL.listOf, keepOf, List.map_cons, List.map_nil, List.length_cons, List.length_nil, List.cons_append, List.nil_append, Nat.reduceAdd, Nat.reduceSub, List.replicate_succ, List.replicate_zero, List.replicate, List.set_cons_zero, List.set_cons_succ, List.getElem?_cons_zero, List.getElem?_cons_succ, Int.reduceToNat, Int.reduceNeg, Bool.false_eq_true, if_true, if_false, decide_eq_true_eq, Option.some.injEq, exists_eq_left', exists_eq_left, true_and, and_true, D.key, D.int.injEq, D.bl.injEq, D.tup.injEq, D.ref.injEq, D.lst.injEq, D.arg.injEq, dCaught, dLam, dCallV, rdIsB, rdMulT, cdIsX, dDict0]
          refine ⟨sl_ok (by decide), eq_nil (xs := xs.filterMap (badOf bs.length)) rfl (fun x hx => hp x (bad_mem hx)) (fin_self ?_)⟩
          rw [Bool.xor_false, bad_nil]
          have e2 : isWd bs.length (.tup xs) = xs.all fun x => btw x 0 ((bs.length : Int) - 1) := by
            unfold isWd
            rw [show decide (lenD (.tup xs) ≤ 200) = true from decide_eq_true (by show ((xs.length : Int) ≤ 200); omega), Bool.and_true]
            rfl
          rw [e2] at k
          exact k
    | _ => cases e
theorem filt_bad (p : Nat → Bool) : ∀ l : List Nat, (l.map fun i => D.int ((0 : Int) + (i : Nat))).filterMap (fun d => match d with | .int k => if p k.toNat = true then none else some (D.int k) | _ => none) = (l.filter fun k => !p k).map fun k : Nat => D.int (0 + (k : Nat))
  | [] => rfl
  | i :: l => by
    rw [List.map_cons, List.filterMap_cons, List.filter_cons]
    have e : ((0 : Int) + (i : Nat)).toNat = i := by omega
    cases c : p i with
    | true => simp only [e, c, if_true, Bool.not_true, Bool.false_eq_true, if_false, ← filt_bad p l]
    | false => simp only [e, c, Bool.false_eq_true, if_false, Bool.not_false, if_true, List.map_cons, ← filt_bad p l]
theorem isEmpty_filter (p : Nat → Bool) (l : List Nat) : (l.filter fun k => !p k).isEmpty = l.all p := by
  induction l with
  | nil => rfl
  | cons x l ih =>
    rw [List.filter_cons, List.all_cons]
    cases c : p x with
    | true => simpa [c] using ih
    | false => simp [c]
theorem pu__law_is_back (ds : List D) (μ : Mu) (Q : DQ) (QE : XQ) (h : sd__law_is_back ds μ Q QE) : db__law_is_back { nx := fun _ μ' => fin Q .non μ', rt := fin Q, xe := finX QE } (startD ["thing", "item", "k"] ds) μ := by
  obtain ⟨d, rfl, ⟨⟨⟨t, ht⟩, hx⟩, hz⟩, k⟩ := h
  have k3 := (kit_ty' ht).u
  unfold db__law_is_back
  simp only [sSeq, sAsg, sRet, sRetN, sDrop, sIf, sPar, sDPutD, sNext, sBrk, sCont, sRaise, sAugI, sFor, sFreeze, dVar, dC, dOp, dTest, dAnd, dOr, dNot, dAndV, dOrV, dNotV, dIf, dChain, dTup, dLst, dLstM, dNil, dCons, dCB, dCall, dCallK, dRev, dSlice, oNone, oSome, dIsN, dNeg, dDGet, dDict, dPs, dPop, dPopAt, dAppend, dLc, dRgL, dRgT, gRg1, gRg2, iSeqD, iRng1D, iRng2D, tTrue, rdAdd, rdI, rdI0, rdB0, rdIx, rdMul, cdLen, cdAbs, cdInt, cdMin2, cdMax2, cdTup, cdList, cdListM, cdAll, cdAny, cdIsi, dName, dGTup, dGCons, dGNil, dGSub, startD, wipeD, seqOf, DL.listOf, keepOf, List.map_cons, List.map_nil, List.length_cons, List.length_nil, List.cons_append, List.nil_append, Nat.reduceAdd, Nat.reduceSub, List.replicate_succ, List.replicate_zero, List.replicate, List.set_cons_zero, List.set_cons_succ, List.getElem?_cons_zero, List.getElem?_cons_succ, Int.reduceToNat, Int.reduceNeg, Bool.false_eq_true, if_true, if_false, decide_eq_true_eq, Option.some.injEq, exists_eq_left', exists_eq_left, true_and, and_true, D.key, D.int.injEq, D.bl.injEq, D.tup.injEq, D.ref.injEq, D.lst.injEq, D.arg.injEq, dCaught, dLam, dCallV, rdIsB, rdMulT, cdIsX, dDict0]
  refine ⟨t, _, ht, k3, ?_⟩
  cases e : isTupD d with
  | false =>
    rw [if_pos (by rfl)]
    have : isBackD d = false := by cases d <;> first | rfl | cases e
    rw [this] at k
    exact fin_self k
  | true =>
    rw [if_neg (by decide)]
    cases d with
    | tup xs =>
      have hx := hx xs rfl
      obtain ⟨hz, hp⟩ := hz xs rfl
      simp only [sSeq, sAsg, sRet, sRetN, sDrop, sIf, sPar, sDPutD, sNext, sBrk, sCont, sRaise, sAugI, sFor, sFreeze, dVar, dC, dOp, dTest, dAnd, dOr, dNot, dAndV, dOrV, dNotV, dIf, dChain, dTup, dLst, dLstM, dNil, dCons, dCB, dCall, dCallK, dRev, dSlice, oNone, oSome, dIsN, dNeg, dDGet, dDict, dPs, dPop, dPopAt, dAppend, dLc, dRgL, dRgT, gRg1, gRg2, iSeqD, iRng1D, iRng2D, tTrue, rdAdd, rdI, rdI0, rdB0, rdIx, rdMul, cdLen, cdAbs, cdInt, cdMin2, cdMax2, cdTup, cdList, cdListM, cdAll, cdAny, cdIsi, dName, dGTup, dGCons, dGNil, dGSub, startD, wipeD, seqOf, DL.listOf, keepOf, List.map_cons, List.map_nil, List.length_cons, List.length_nil, List.cons_append, List.nil_append, Nat.reduceAdd, Nat.reduceSub, List.replicate_succ, List.replicate_zero, List.replicate, List.set_cons_zero, List.set_cons_succ, List.getElem?_cons_zero, List.getElem?_cons_succ, Int.reduceToNat, Int.reduceNeg, Bool.false_eq_true, if_true, if_false, decide_eq_true_eq, Option.some.injEq, exists_eq_left', exists_eq_left, true_and, and_true, D.key, D.int.injEq, D.bl.injEq, D.tup.injEq, D.ref.injEq, D.lst.injEq, D.arg.injEq, dCaught, dLam, dCallV, rdIsB, rdMulT, cdIsX, dDict0]
      -- what is no back for a plain reason
      have no : (∀ ns, xs = ns.map D.int → BackI ns → False) → Q (.bl false) μ := fun hn => by
        have e2 : isBackD (.tup xs) = false := by
          cases eb : isBackD (.tup xs) with
          | false => rfl
          | true =>
            obtain ⟨ns, en, hb⟩ := isBackD_inv eb
            injection en with en
            exact (hn ns en (backI hb)).elim
        rw [e2] at k
        exact k
      by_cases c2 : (2 : Int) ≤ xs.length
      · rw [if_pos c2]
        by_cases c12 : (xs.length : Int) ≤ 12
        · rw [if_neg (by simp [c12])]
          refine lc_pure (badOf xs.length) (sl_ok (by omega)) (fun _ _ _ => trivial) (fun i x μ' R1 R2 hx1 hl h1 h2 => ?_) (fun p hp2 => ?_)
          · simp only [sSeq, sAsg, sRet, sRetN, sDrop, sIf, sPar, sDPutD, sNext, sBrk, sCont, sRaise, sAugI, sFor, sFreeze, dVar, dC, dOp, dTest, dAnd, dOr, dNot, dAndV, dOrV, dNotV, dIf, dChain, dTup, dLst, dLstM, dNil, dCons, dCB, dCall, dCallK, dRev, dSlice, oNone, oSome, dIsN, dNeg, dDGet, dDict, dPs, dPop, dPopAt, dAppend, dLc, dRgL, dRgT, gRg1, gRg2, iSeqD, iRng1D, iRng2D, tTrue, rdAdd, rdI, rdI0, rdB0, rdIx, rdMul, cdLen, cdAbs, cdInt, cdMin2, cdMax2, cdTup, cdList, cdListM, cdAll, cdAny, cdIsi, dName, dGTup, dGCons, dGNil, dGSub, startD, wipeD, seqOf, DL.listOf, keepOf, List.map_cons, List.map_nil, List.length_cons, List.length_nil, List.cons_append, List.nil_append, Nat.reduceAdd, Nat.reduceSub, List.replicate_succ, List.replicate_zero, List.replicate, List.set_cons_zero, List.set_cons_succ, List.getElem?_cons_zero, List.getElem?_cons_succ, Int.reduceToNat, Int.reduceNeg, Bool.false_eq_true, if_true, if_false, decide_eq_true_eq, Option.some.injEq, exists_eq_left', exists_eq_left, true_and, and_true, D.key, D.int.injEq, D.bl.injEq, D.tup.injEq, D.ref.injEq, D.lst.injEq, D.arg.injEq, dCaught, dLam, dCallV, rdIsB, rdMulT, cdIsX, dDict0]
            exact bad_test (hx x (List.mem_of_getElem? hx1)) hl h1 h2
          · simp only [sSeq, sAsg, sRet, sRetN, sDrop, sIf, sPar, sDPutD, sNext, sBrk, sCont, sRaise, sAugI, sFor, sFreeze, dVar, dC, dOp, dTest, dAnd, dOr, dNot, dAndV, dOrV, dNotV, dIf, dChain, dTup, dLst, dLstM, dNil, dCons, dCB, dCall, dCallK, dRev, dSlice, oNone, oSome, dIsN, dNeg, dDGet, dDict, dPs, dPop, dPopAt, dAppend, dLc, dRgL, dRgT, gRg1, gRg2, iSeqD, iRng1D, iRng2D, tTrue, rdAdd, rdI, rdI0, rdB0, rdIx, rdMul, cdLen, cdAbs, cdInt, cdMin2, cdMax2, cdTup, cdList, cdListM, cdAll, cdAny, cdIsi, dName, dGTup, dGCons, dGNil, dGSub, startD, wipeD, seqOf, DL.listOf, keepOf, List.map_cons, List.map_nil, List.length_cons, List.length_nil, List.cons_append, List.nil_append, Nat.reduceAdd, Nat.reduceSub, List.replicate_succ, List.replicate_zero, List.replicate, List.set_cons_zero, List.set_cons_succ, List.getElem?_cons_zero, List.getElem?_cons_succ, Int.reduceToNat, Int.reduceNeg, Bool.false_eq_true, if_true, if_false, decide_eq_true_eq, Option.some.injEq, exists_eq_left', exists_eq_left, true_and, and_true, D.key, D.int.injEq, D.bl.injEq, D.tup.injEq, D.ref.injEq, D.lst.injEq, D.arg.injEq, dCaught, dLam, dCallV, rdIsB, rdMulT, cdIsX, dDict0]
            refine ⟨sl_ok (by decide), eq_nil (xs := xs.filterMap (badOf xs.length)) rfl (fun x hx => hp x (bad_mem hx)) ⟨_, rfl, ?_⟩⟩
            rw [bad_nil]
            by_cases ca : (xs.all fun x => btw x 0 (↑xs.length - 1)) = true
            · rw [if_neg (by rw [ca]; decide)]
              obtain ⟨ns, rfl, hn⟩ := btw_ints ca
              rw [List.length_map] at hn c2 c12 ⊢
              refine ⟨by omega, by omega, ?_⟩
              have hn' : Lets ns.length ns := fun l hl => by have := hn l hl; omega
              refine lc_pure (fun d => match d with | .int k => if decide (ns.getD (ns.getD k.toNat 0).toNat 0 = ((k.toNat : Nat) : Int)) = true then none else some (.int k) | _ => none) (by unfold rng; rw [List.length_map, List.length_range]; exact sl_ok (by omega)) (fun _ _ _ => trivial) (fun i x μ' R1 R2 hx1 hl h1 h2 => ?_) (fun _ _ => ?_)
              · obtain ⟨hi, rfl⟩ := rng_get hx1
                simp only [sSeq, sAsg, sRet, sRetN, sDrop, sIf, sPar, sDPutD, sNext, sBrk, sCont, sRaise, sAugI, sFor, sFreeze, dVar, dC, dOp, dTest, dAnd, dOr, dNot, dAndV, dOrV, dNotV, dIf, dChain, dTup, dLst, dLstM, dNil, dCons, dCB, dCall, dCallK, dRev, dSlice, oNone, oSome, dIsN, dNeg, dDGet, dDict, dPs, dPop, dPopAt, dAppend, dLc, dRgL, dRgT, gRg1, gRg2, iSeqD, iRng1D, iRng2D, tTrue, rdAdd, rdI, rdI0, rdB0, rdIx, rdMul, cdLen, cdAbs, cdInt, cdMin2, cdMax2, cdTup, cdList, cdListM, cdAll, cdAny, cdIsi, dName, dGTup, dGCons, dGNil, dGSub, startD, wipeD, seqOf, DL.listOf, keepOf, List.map_cons, List.map_nil, List.length_cons, List.length_nil, List.cons_append, List.nil_append, Nat.reduceAdd, Nat.reduceSub, List.replicate_succ, List.replicate_zero, List.replicate, List.set_cons_zero, List.set_cons_succ, List.getElem?_cons_zero, List.getElem?_cons_succ, Int.reduceToNat, Int.reduceNeg, Bool.false_eq_true, if_true, if_false, decide_eq_true_eq, Option.some.injEq, exists_eq_left', exists_eq_left, true_and, and_true, D.key, D.int.injEq, D.bl.injEq, D.tup.injEq, D.ref.injEq, D.lst.injEq, D.arg.injEq, dCaught, dLam, dCallV, rdIsB, rdMulT, cdIsX, dDict0]
                have e0 : ((0 : Int) + (i : Nat)).toNat = i := by omega
                have hin : i < ns.length := by omega
                have a1 : atI (ns.map D.int) (0 + (i : Nat)) = some (.int (ns.getD i 0)) := by
                  have := atI_ints (ns := ns) (i := 0 + (i : Nat)) (by omega) (by omega)
                  rw [e0] at this
                  exact this
                have m1 := hn' _ (getD_mem' hin)
                refine ⟨_, a1, _, atI_ints m1.1 m1.2, eq_int ⟨_, rfl, ?_⟩⟩
                by_cases c : ns.getD (ns.getD i 0).toNat 0 = (i : Int)
                · rw [if_neg (by rw [decide_eq_true (by rw [c]; omega)]; decide)]
                  exact h2 (by show (if _ then _ else _) = _; rw [e0, if_pos (by simpa using c)])
                · rw [if_pos (by rw [decide_eq_false (fun z => c (by rw [z]; omega))]; rfl)]
                  exact h1 _ (by show (if _ then _ else _) = _; rw [e0, if_neg (by simpa using c)])
              · simp only [sSeq, sAsg, sRet, sRetN, sDrop, sIf, sPar, sDPutD, sNext, sBrk, sCont, sRaise, sAugI, sFor, sFreeze, dVar, dC, dOp, dTest, dAnd, dOr, dNot, dAndV, dOrV, dNotV, dIf, dChain, dTup, dLst, dLstM, dNil, dCons, dCB, dCall, dCallK, dRev, dSlice, oNone, oSome, dIsN, dNeg, dDGet, dDict, dPs, dPop, dPopAt, dAppend, dLc, dRgL, dRgT, gRg1, gRg2, iSeqD, iRng1D, iRng2D, tTrue, rdAdd, rdI, rdI0, rdB0, rdIx, rdMul, cdLen, cdAbs, cdInt, cdMin2, cdMax2, cdTup, cdList, cdListM, cdAll, cdAny, cdIsi, dName, dGTup, dGCons, dGNil, dGSub, startD, wipeD, seqOf, DL.listOf, keepOf, List.map_cons, List.map_nil, List.length_cons, List.length_nil, List.cons_append, List.nil_append, Nat.reduceAdd, Nat.reduceSub, List.replicate_succ, List.replicate_zero, List.replicate, List.set_cons_zero, List.set_cons_succ, List.getElem?_cons_zero, List.getElem?_cons_succ, Int.reduceToNat, Int.reduceNeg, Bool.false_eq_true, if_true, if_false, decide_eq_true_eq, Option.some.injEq, exists_eq_left', exists_eq_left, true_and, and_true, D.key, D.int.injEq, D.bl.injEq, D.tup.injEq, D.ref.injEq, D.lst.injEq, D.arg.injEq, dCaught, dLam, dCallV, rdIsB, rdMulT, cdIsX, dDict0]
                have ef : (rng 0 (((ns.length : Nat) : Int)).toNat).filterMap (fun d => match d with | .int k => if decide (ns.getD (ns.getD k.toNat 0).toNat 0 = ((k.toNat : Nat) : Int)) = true then none else some (D.int k) | _ => none) = ((List.range ns.length).filter fun k => !decide (ns.getD (ns.getD k 0).toNat 0 = (k : Int))).map fun k : Nat => D.int (0 + (k : Nat)) := by
                  rw [Int.toNat_natCast]
                  exact filt_bad (fun k => decide (ns.getD (ns.getD k 0).toNat 0 = (k : Int))) (List.range ns.length)
                simp only [decide_eq_true_eq] at ef
                rw [ef]
                refine ⟨sl_ok (by decide), eq_nil (xs := ((List.range ns.length).filter fun k => !decide (ns.getD (ns.getD k 0).toNat 0 = (k : Int))).map fun k : Nat => D.int (0 + (k : Nat))) rfl (fun x hx => ?_) (fin_self ?_)⟩
                · obtain ⟨i, _, rfl⟩ := List.mem_map.mp hx
                  exact .int
                · rw [Bool.xor_false, List.isEmpty_map, isEmpty_filter]
                  have e2 : isBackD (.tup (ns.map .int)) = (List.range ns.length).all fun k => decide (ns.getD (ns.getD k 0).toNat 0 = (k : Int)) := by
                    show isBackD (tI ns) = _
                    rw [isBackD_tI]
                    unfold isBackI
                    have h1 : decide (2 ≤ ns.length) = true := by simpa using (by omega : 2 ≤ ns.length)
                    have h2 : decide (ns.length ≤ 12) = true := by simpa using (by omega : ns.length ≤ 12)
                    have h3 : (ns.all fun i => decide (0 ≤ i) && decide (i ≤ (ns.length : Int) - 1)) = true := by
                      simp only [List.all_eq_true, Bool.and_eq_true, decide_eq_true_eq]
                      exact fun l hl => hn l hl
                    rw [h1, h2, h3]
                    rfl
                  rw [e2] at k
                  exact k
            · rw [if_pos (by simpa using ca)]
              refine fin_self (no fun ns en hb => ca ?_)
              subst en
              have hb := hb.lets
              rw [List.all_map, List.length_map]
              simp only [List.all_eq_true, Function.comp_apply, btw, Bool.and_eq_true, decide_eq_true_eq]
              exact fun l hl => by have := hb l hl; omega
        · rw [if_pos (by simpa using c12)]
          refine fin_self (no fun ns en hb => ?_)
          subst en
          have := hb.few
          rw [List.length_map] at c12
          omega
      · rw [if_neg c2, if_pos (by rfl)]
        refine fin_self (no fun ns en hb => ?_)
        subst en
        have := hb.two
        rw [List.length_map] at c2
        omega
    | _ => cases e
end K01

/-! Law k01 over data. -/
namespace K01
open PySem PySem.Spec PyProof.Rows L2 DL
abbrev TN : Str := qn "law" ++ "<lambda>"
theorem keepT {q l PT : Addr} {t : Str} {μ μ' : Mu} (D0 : DrawAt μ q l) (h : μ PT = some (.tbl t)) (k : Keep q l μ μ') : μ' PT = some (.tbl t) := by
  obtain ⟨ls, r, cs, t', a, b, _⟩ := D0
  exact k PT _ (fun z => by rw [z, a] at h; cases h) (fun z => by rw [z, b] at h; cases h) h
theorem draw_le {q l : Addr} {μ μ' : Mu} (h : DrawAt μ q l) (k : Le μ μ') : DrawAt μ' q l := by
  obtain ⟨ls, r, cs, t, a, b, c⟩ := h
  exact ⟨ls, r, cs, t, k _ _ a, k _ _ b, c⟩
theorem cut_len {α : Type} {xs : List α} {i j : Option Int} : (DL.cutD xs i j).length ≤ xs.length := by
  unfold DL.cutD
  rw [List.length_take, List.length_drop]
  omega
theorem cut_mem {α : Type} {xs : List α} {i j : Option Int} {y : α} (h : y ∈ DL.cutD xs i j) : y ∈ xs := by
  unfold DL.cutD at h
  exact List.mem_of_mem_drop (List.mem_of_mem_take h)
/-- an item that may stand in a value to be judged -/
def Smp (x : D) : Prop := (∃ t, ∀ μ, tyD μ x = some t) ∧ PyOk 63 x
theorem smp_int {i : Int} : Smp (.int i) := ⟨⟨"int", fun _ => rfl⟩, .int⟩
theorem smp_bl {b : Bool} : Smp (.bl b) := ⟨⟨"bool", fun _ => rfl⟩, .bl⟩
theorem smp_non : Smp .non := ⟨⟨"NoneType", fun _ => rfl⟩, .non⟩
theorem smp_zero : Smp (.str "0") := ⟨⟨"str", fun _ => rfl⟩, .str "0", by simp only [D.py], by decide +kernel, by simp only [PyData.depth]; omega⟩
theorem smp_tup {ns : List Int} : Smp (tI ns) := ⟨⟨"tuple", fun _ => rfl⟩, (PyOk.tup (n := 0) ints_ok).mono (by decide)⟩
theorem vl_tup {μ : Mu} {xs : List D} (hz : xs.length < 1000) (h : ∀ x ∈ xs, Smp x) : Vl μ (.tup xs) :=
  ⟨⟨⟨"tuple", rfl⟩, fun ys e x hx => by cases e; obtain ⟨⟨t, ht⟩, _⟩ := h x hx; exact ⟨t, ht μ⟩⟩, fun ys e => by cases e; exact ⟨hz, fun x hx => (h x hx).2⟩⟩
theorem smp_ints {ns : List Int} : ∀ x ∈ ns.map D.int, Smp x := fun x hx => by
  obtain ⟨i, _, rfl⟩ := mem_ints hx
  exact smp_int
theorem vl_tI {μ : Mu} {ns : List Int} (hz : ns.length < 1000) : Vl μ (tI ns) := vl_tup (by rw [List.length_map]; exact hz) smp_ints
theorem vl_oth {μ : Mu} {d : D} {t : String} (h : tyD μ d = some t) (n : ∀ xs, d ≠ .tup xs) : Vl μ d := ⟨⟨⟨t, h⟩, fun xs e => (n xs e).elim⟩, fun xs e => (n xs e).elim⟩
theorem Vl.big {μ : Mu} {d : D} (h : Vl μ d) : ∀ xs, d = .tup xs → xs.length < 1000000 := fun xs e => by have := (h.2 xs e).1; omega
/-- == of bools -/
theorem eq_bl {s : Bool} {i j : Bool} {μ : Mu} {Q : DQ} (q : Q (.bl ((i == j) ^^ s)) μ) : rdEq s (.bl i) (.bl j) μ Q := by
  refine eq_ok .bl .bl (b := i == j) (fun p r h1 h2 => ?_) q
  simp only [D.py, Option.some.injEq] at h1 h2
  subst h1 h2
  simp only [PyData.eqv]
theorem tup_ints_inj {a b : List Int} (h : tI a = tI b) : a = b := by
  injection h with h
  have := congrArg intsOf h
  rw [intsOf_map, intsOf_map] at this
  exact Option.some.inj this
section
variable {PT q l : Addr} {C : List (Str × Addr)} {DD : DEnds} {μ : Mu} {a d : D} {bs ws : List Int} {o2 o3 o4 o5 o6 o7 o8 o9 o10 o11 o12 o13 : Option D}
/-- undone(value, None) of no back -/
theorem t_18 (hT : μ PT = some (.tbl TN)) (hV : Vl μ d) (hb : isBackD d = false) (nx : DD.nx [some a, some (.ref q), o2, o3, o4, o5, o6, some d, o8, o9, o10, o11, o12, o13] μ) :
    db_law_18 PT C DD [some a, some (.ref q), o2, o3, o4, o5, o6, some d, o8, o9, o10, o11, o12, o13] μ := by
  unfold db_law_18
  simp only [sSeq, sAsg, sRet, sRetN, sDrop, sIf, sPar, sDPutD, sNext, sBrk, sCont, sRaise, sAugI, sFor, sFreeze, dVar, dC, dOp, dTest, dAnd, dOr, dNot, dAndV, dOrV, dNotV, dIf, dChain, dTup, dLst, dLstM, dNil, dCons, dCB, dCall, dCallK, dRev, dSlice, oNone, oSome, dIsN, dNeg, dDGet, dDict, dPs, dPop, dPopAt, dAppend, dLc, dRgL, dRgT, gRg1, gRg2, iSeqD, iRng1D, iRng2D, tTrue, rdAdd, rdI, rdI0, rdB0, rdIx, rdMul, cdLen, cdAbs, cdInt, cdMin2, cdMax2, cdTup, cdList, cdListM, cdAll, cdAny, cdIsi, dName, dGTup, dGCons, dGNil, dGSub, startD, wipeD, seqOf, DL.listOf, keepOf, List.map_cons, List.map_nil, List.length_cons, List.length_nil, List.cons_append, List.nil_append, Nat.reduceAdd, Nat.reduceSub, List.replicate_succ, List.replicate_zero, List.replicate, List.set_cons_zero, List.set_cons_succ, List.getElem?_cons_zero, List.getElem?_cons_succ, Int.reduceToNat, Int.reduceNeg, Bool.false_eq_true, if_true, if_false, decide_eq_true_eq, Option.some.injEq, exists_eq_left', exists_eq_left, true_and, and_true, D.key, D.int.injEq, D.bl.injEq, D.tup.injEq, D.ref.injEq, D.lst.injEq, D.arg.injEq, dCaught, dLam, dCallV, rdIsB, rdMulT, cdIsX, dDict0]
  refine ⟨hT, _, de_law_2, rfl, by simp [lt_law], ?_⟩
  unfold de_law_2
  simp only [sSeq, sAsg, sRet, sRetN, sDrop, sIf, sPar, sDPutD, sNext, sBrk, sCont, sRaise, sAugI, sFor, sFreeze, dVar, dC, dOp, dTest, dAnd, dOr, dNot, dAndV, dOrV, dNotV, dIf, dChain, dTup, dLst, dLstM, dNil, dCons, dCB, dCall, dCallK, dRev, dSlice, oNone, oSome, dIsN, dNeg, dDGet, dDict, dPs, dPop, dPopAt, dAppend, dLc, dRgL, dRgT, gRg1, gRg2, iSeqD, iRng1D, iRng2D, tTrue, rdAdd, rdI, rdI0, rdB0, rdIx, rdMul, cdLen, cdAbs, cdInt, cdMin2, cdMax2, cdTup, cdList, cdListM, cdAll, cdAny, cdIsi, dName, dGTup, dGCons, dGNil, dGSub, startD, wipeD, seqOf, DL.listOf, keepOf, List.map_cons, List.map_nil, List.length_cons, List.length_nil, List.cons_append, List.nil_append, Nat.reduceAdd, Nat.reduceSub, List.replicate_succ, List.replicate_zero, List.replicate, List.set_cons_zero, List.set_cons_succ, List.getElem?_cons_zero, List.getElem?_cons_succ, Int.reduceToNat, Int.reduceNeg, Bool.false_eq_true, if_true, if_false, decide_eq_true_eq, Option.some.injEq, exists_eq_left', exists_eq_left, true_and, and_true, D.key, D.int.injEq, D.bl.injEq, D.tup.injEq, D.ref.injEq, D.lst.injEq, D.arg.injEq, dCaught, dLam, dCallV, rdIsB, rdMulT, cdIsX, dDict0]
  refine ⟨d, .non, rfl, hV.1, fun e => absurd e (by rw [hb]; decide), fun _ => ⟨by simp [cn__law_caught], true, by simp [isxT], ?_⟩⟩
  rw [if_neg (by decide)]
  exact nx
/-- of no back -/
theorem t_13 (hT : μ PT = some (.tbl TN)) (hV : Vl μ d) (hb : isBackD d = false) (nx : ∀ o9, DD.nx [some a, some (.ref q), o2, o3, o4, o5, o6, some d, o8, o9, o10, o11, o12, o13] μ) :
    db_law_13 PT C DD [some a, some (.ref q), o2, o3, o4, o5, o6, some d, o8, o9, o10, o11, o12, o13] μ := by
  unfold db_law_13
  simp only [sSeq, sAsg, sRet, sRetN, sDrop, sIf, sPar, sDPutD, sNext, sBrk, sCont, sRaise, sAugI, sFor, sFreeze, dVar, dC, dOp, dTest, dAnd, dOr, dNot, dAndV, dOrV, dNotV, dIf, dChain, dTup, dLst, dLstM, dNil, dCons, dCB, dCall, dCallK, dRev, dSlice, oNone, oSome, dIsN, dNeg, dDGet, dDict, dPs, dPop, dPopAt, dAppend, dLc, dRgL, dRgT, gRg1, gRg2, iSeqD, iRng1D, iRng2D, tTrue, rdAdd, rdI, rdI0, rdB0, rdIx, rdMul, cdLen, cdAbs, cdInt, cdMin2, cdMax2, cdTup, cdList, cdListM, cdAll, cdAny, cdIsi, dName, dGTup, dGCons, dGNil, dGSub, startD, wipeD, seqOf, DL.listOf, keepOf, List.map_cons, List.map_nil, List.length_cons, List.length_nil, List.cons_append, List.nil_append, Nat.reduceAdd, Nat.reduceSub, List.replicate_succ, List.replicate_zero, List.replicate, List.set_cons_zero, List.set_cons_succ, List.getElem?_cons_zero, List.getElem?_cons_succ, Int.reduceToNat, Int.reduceNeg, Bool.false_eq_true, if_true, if_false, decide_eq_true_eq, Option.some.injEq, exists_eq_left', exists_eq_left, true_and, and_true, D.key, D.int.injEq, D.bl.injEq, D.tup.injEq, D.ref.injEq, D.lst.injEq, D.arg.injEq, dCaught, dLam, dCallV, rdIsB, rdMulT, cdIsX, dDict0]
  refine ⟨hT, hT, sl_ok (by decide), ?_⟩
  refine ⟨fun i ρ' μ' => (∃ o9, ρ' = [some a, some (.ref q), o2, o3, o4, o5, o6, some d, o8, o9, o10, o11, o12, o13]) ∧ μ' = μ, ⟨⟨_, rfl⟩, rfl⟩, fun _ _ _ _ _ => trivial, ?_, ?_⟩
  · rintro i x ρ' μ' hx ⟨⟨p9, rfl⟩, rfl⟩
    simp only [sSeq, sAsg, sRet, sRetN, sDrop, sIf, sPar, sDPutD, sNext, sBrk, sCont, sRaise, sAugI, sFor, sFreeze, dVar, dC, dOp, dTest, dAnd, dOr, dNot, dAndV, dOrV, dNotV, dIf, dChain, dTup, dLst, dLstM, dNil, dCons, dCB, dCall, dCallK, dRev, dSlice, oNone, oSome, dIsN, dNeg, dDGet, dDict, dPs, dPop, dPopAt, dAppend, dLc, dRgL, dRgT, gRg1, gRg2, iSeqD, iRng1D, iRng2D, tTrue, rdAdd, rdI, rdI0, rdB0, rdIx, rdMul, cdLen, cdAbs, cdInt, cdMin2, cdMax2, cdTup, cdList, cdListM, cdAll, cdAny, cdIsi, dName, dGTup, dGCons, dGNil, dGSub, startD, wipeD, seqOf, DL.listOf, keepOf, List.map_cons, List.map_nil, List.length_cons, List.length_nil, List.cons_append, List.nil_append, Nat.reduceAdd, Nat.reduceSub, List.replicate_succ, List.replicate_zero, List.replicate, List.set_cons_zero, List.set_cons_succ, List.getElem?_cons_zero, List.getElem?_cons_succ, Int.reduceToNat, Int.reduceNeg, Bool.false_eq_true, if_true, if_false, decide_eq_true_eq, Option.some.injEq, exists_eq_left', exists_eq_left, true_and, and_true, D.key, D.int.injEq, D.bl.injEq, D.tup.injEq, D.ref.injEq, D.lst.injEq, D.arg.injEq, dCaught, dLam, dCallV, rdIsB, rdMulT, cdIsX, dDict0]
    have h := List.mem_of_getElem? hx
    simp only [List.mem_cons, List.not_mem_nil, or_false] at h
    rcases h with rfl | rfl
    · refine ⟨_, de_law_0, rfl, by simp [lt_law], ?_⟩
      unfold de_law_0
      simp only [sSeq, sAsg, sRet, sRetN, sDrop, sIf, sPar, sDPutD, sNext, sBrk, sCont, sRaise, sAugI, sFor, sFreeze, dVar, dC, dOp, dTest, dAnd, dOr, dNot, dAndV, dOrV, dNotV, dIf, dChain, dTup, dLst, dLstM, dNil, dCons, dCB, dCall, dCallK, dRev, dSlice, oNone, oSome, dIsN, dNeg, dDGet, dDict, dPs, dPop, dPopAt, dAppend, dLc, dRgL, dRgT, gRg1, gRg2, iSeqD, iRng1D, iRng2D, tTrue, rdAdd, rdI, rdI0, rdB0, rdIx, rdMul, cdLen, cdAbs, cdInt, cdMin2, cdMax2, cdTup, cdList, cdListM, cdAll, cdAny, cdIsi, dName, dGTup, dGCons, dGNil, dGSub, startD, wipeD, seqOf, DL.listOf, keepOf, List.map_cons, List.map_nil, List.length_cons, List.length_nil, List.cons_append, List.nil_append, Nat.reduceAdd, Nat.reduceSub, List.replicate_succ, List.replicate_zero, List.replicate, List.set_cons_zero, List.set_cons_succ, List.getElem?_cons_zero, List.getElem?_cons_succ, Int.reduceToNat, Int.reduceNeg, Bool.false_eq_true, if_true, if_false, decide_eq_true_eq, Option.some.injEq, exists_eq_left', exists_eq_left, true_and, and_true, D.key, D.int.injEq, D.bl.injEq, D.tup.injEq, D.ref.injEq, D.lst.injEq, D.arg.injEq, dCaught, dLam, dCallV, rdIsB, rdMulT, cdIsX, dDict0]
      refine ⟨d, .non, rfl, hV.1, fun e => absurd e (by rw [hb]; decide), fun _ => ⟨by simp [cn__law_caught], true, by simp [isxT], ?_⟩⟩
      rw [if_neg (by decide)]
      exact ⟨⟨_, rfl⟩, rfl⟩
    · refine ⟨_, de_law_1, rfl, by simp [lt_law], ?_⟩
      unfold de_law_1
      simp only [sSeq, sAsg, sRet, sRetN, sDrop, sIf, sPar, sDPutD, sNext, sBrk, sCont, sRaise, sAugI, sFor, sFreeze, dVar, dC, dOp, dTest, dAnd, dOr, dNot, dAndV, dOrV, dNotV, dIf, dChain, dTup, dLst, dLstM, dNil, dCons, dCB, dCall, dCallK, dRev, dSlice, oNone, oSome, dIsN, dNeg, dDGet, dDict, dPs, dPop, dPopAt, dAppend, dLc, dRgL, dRgT, gRg1, gRg2, iSeqD, iRng1D, iRng2D, tTrue, rdAdd, rdI, rdI0, rdB0, rdIx, rdMul, cdLen, cdAbs, cdInt, cdMin2, cdMax2, cdTup, cdList, cdListM, cdAll, cdAny, cdIsi, dName, dGTup, dGCons, dGNil, dGSub, startD, wipeD, seqOf, DL.listOf, keepOf, List.map_cons, List.map_nil, List.length_cons, List.length_nil, List.cons_append, List.nil_append, Nat.reduceAdd, Nat.reduceSub, List.replicate_succ, List.replicate_zero, List.replicate, List.set_cons_zero, List.set_cons_succ, List.getElem?_cons_zero, List.getElem?_cons_succ, Int.reduceToNat, Int.reduceNeg, Bool.false_eq_true, if_true, if_false, decide_eq_true_eq, Option.some.injEq, exists_eq_left', exists_eq_left, true_and, and_true, D.key, D.int.injEq, D.bl.injEq, D.tup.injEq, D.ref.injEq, D.lst.injEq, D.arg.injEq, dCaught, dLam, dCallV, rdIsB, rdMulT, cdIsX, dDict0]
      refine ⟨d, .non, rfl, hV.1, fun e => absurd e (by rw [hb]; decide), fun _ => ⟨by simp [cn__law_caught], true, by simp [isxT], ?_⟩⟩
      rw [if_neg (by decide)]
      exact ⟨⟨_, rfl⟩, rfl⟩
  · rintro ρ' μ' ⟨⟨p9, rfl⟩, rfl⟩
    exact t_18 hT hV hb (nx _)
/-- one value, judged as a back -/
theorem t_8 (hT : μ PT = some (.tbl TN)) (hV : Vl μ d) (nx : ∀ o8 o9, DD.nx [some a, some (.ref q), o2, o3, o4, o5, o6, some d, o8, o9, o10, o11, o12, o13] μ) (ct : ∀ o8 o9, DD.ct [some a, some (.ref q), o2, o3, o4, o5, o6, some d, o8, o9, o10, o11, o12, o13] μ) :
    db_law_8 PT C DD [some a, some (.ref q), o2, o3, o4, o5, o6, some d, o8, o9, o10, o11, o12, o13] μ := by
  unfold db_law_8
  simp only [sSeq, sAsg, sRet, sRetN, sDrop, sIf, sPar, sDPutD, sNext, sBrk, sCont, sRaise, sAugI, sFor, sFreeze, dVar, dC, dOp, dTest, dAnd, dOr, dNot, dAndV, dOrV, dNotV, dIf, dChain, dTup, dLst, dLstM, dNil, dCons, dCB, dCall, dCallK, dRev, dSlice, oNone, oSome, dIsN, dNeg, dDGet, dDict, dPs, dPop, dPopAt, dAppend, dLc, dRgL, dRgT, gRg1, gRg2, iSeqD, iRng1D, iRng2D, tTrue, rdAdd, rdI, rdI0, rdB0, rdIx, rdMul, cdLen, cdAbs, cdInt, cdMin2, cdMax2, cdTup, cdList, cdListM, cdAll, cdAny, cdIsi, dName, dGTup, dGCons, dGNil, dGSub, startD, wipeD, seqOf, DL.listOf, keepOf, List.map_cons, List.map_nil, List.length_cons, List.length_nil, List.cons_append, List.nil_append, Nat.reduceAdd, Nat.reduceSub, List.replicate_succ, List.replicate_zero, List.replicate, List.set_cons_zero, List.set_cons_succ, List.getElem?_cons_zero, List.getElem?_cons_succ, Int.reduceToNat, Int.reduceNeg, Bool.false_eq_true, if_true, if_false, decide_eq_true_eq, Option.some.injEq, exists_eq_left', exists_eq_left, true_and, and_true, D.key, D.int.injEq, D.bl.injEq, D.tup.injEq, D.ref.injEq, D.lst.injEq, D.arg.injEq, dCaught, dLam, dCallV, rdIsB, rdMulT, cdIsX, dDict0]
  refine ⟨d, rfl, hV, d, rfl, hV.1, _, _, rfl, _, rfl, ?_⟩
  rw [if_neg (by simp)]
  refine ⟨_, rfl, d, rfl, hV.1, _, _, rfl, _, rfl, ?_⟩
  rw [if_neg (by simp)]
  refine ⟨_, rfl, ?_⟩
  cases e : isBackD d with
  | true =>
    rw [if_pos rfl]
    exact ct _ _
  | false =>
    rw [if_neg (by decide)]
    exact t_13 hT hV e fun _ => nx _ _
theorem back_tI (B : BackI bs) : isBackD (tI bs) = true := (isBackD_tI bs).trans (backI_of B)
theorem len_tI : lenD (tI bs) = (bs.length : Nat) := by show ((bs.map D.int).length : Int) = _; rw [List.length_map]
theorem not_wd {xs : List Int} (e : isWd bs.length (tI xs) = false) (h1 : Lets bs.length xs) (h2 : xs.length ≤ 200) : False := by
  rw [isWd_tI h1 h2] at e
  cases e
theorem bad_free {Q : DQ} {E : XQ} (B : BackI bs) (hV : Vl μ d) (e : isWd bs.length d = false) (h : E ⟨"BadWord", []⟩ μ) : sd_free [tI bs, d] μ Q E :=
  ⟨tI bs, d, rfl, (vl_tI (by have := B.few; omega)).1, fun _ => ⟨hV.1, hV.big, fun bs' ws e1 e2 h1 h2 => by
    cases tup_ints_inj e1
    rw [e2] at e
    exact (not_wd e h1 h2).elim, fun _ => h⟩, fun e => absurd e (by rw [back_tI B]; decide)⟩
theorem bad_undone {Q : DQ} {E : XQ} (B : BackI bs) (hV : Vl μ d) (e : isWd bs.length d = false) (h : E ⟨"BadWord", []⟩ μ) : sd_undone [tI bs, d] μ Q E :=
  ⟨tI bs, d, rfl, (vl_tI (by have := B.few; omega)).1, fun _ => ⟨hV.1, hV.big, fun bs' ws e1 e2 h1 h2 => by
    cases tup_ints_inj e1
    rw [e2] at e
    exact (not_wd e h1 h2).elim, fun _ => h⟩, fun e => absurd e (by rw [back_tI B]; decide)⟩
theorem good_free {Q : DQ} {E : XQ} (B : BackI bs) (hV : Vl μ d) (e : isWd bs.length d = true) (h : ∀ x, Q x μ) : sd_free [tI bs, d] μ Q E :=
  ⟨tI bs, d, rfl, (vl_tI (by have := B.few; omega)).1, fun _ => ⟨hV.1, hV.big, fun _ _ _ _ _ _ => h _, fun e2 => absurd e (by rw [← len_tI (bs := bs), e2]; decide)⟩, fun e => absurd e (by rw [back_tI B]; decide)⟩
theorem good_undone {Q : DQ} {E : XQ} (B : BackI bs) (hV : Vl μ d) (e : isWd bs.length d = true) (h : ∀ x, Q x μ) : sd_undone [tI bs, d] μ Q E :=
  ⟨tI bs, d, rfl, (vl_tI (by have := B.few; omega)).1, fun _ => ⟨hV.1, hV.big, fun _ _ _ _ _ _ => h _, fun e2 => absurd e (by rw [← len_tI (bs := bs), e2]; decide)⟩, fun e => absurd e (by rw [back_tI B]; decide)⟩
/-- of no word, or the long one -/
theorem t_37 (hT : μ PT = some (.tbl TN)) (B : BackI bs) (hV : Vl μ d) (nx : DD.nx [some a, some (.ref q), o2, some (tI bs), o4, o5, o6, some d, some (.bl (isWd bs.length d)), o9, o10, o11, o12, o13] μ) :
    db_law_37 PT C DD [some a, some (.ref q), o2, some (tI bs), o4, o5, o6, some d, some (.bl (isWd bs.length d)), o9, o10, o11, o12, o13] μ := by
  unfold db_law_37
  simp only [sSeq, sAsg, sRet, sRetN, sDrop, sIf, sPar, sDPutD, sNext, sBrk, sCont, sRaise, sAugI, sFor, sFreeze, dVar, dC, dOp, dTest, dAnd, dOr, dNot, dAndV, dOrV, dNotV, dIf, dChain, dTup, dLst, dLstM, dNil, dCons, dCB, dCall, dCallK, dRev, dSlice, oNone, oSome, dIsN, dNeg, dDGet, dDict, dPs, dPop, dPopAt, dAppend, dLc, dRgL, dRgT, gRg1, gRg2, iSeqD, iRng1D, iRng2D, tTrue, rdAdd, rdI, rdI0, rdB0, rdIx, rdMul, cdLen, cdAbs, cdInt, cdMin2, cdMax2, cdTup, cdList, cdListM, cdAll, cdAny, cdIsi, dName, dGTup, dGCons, dGNil, dGSub, startD, wipeD, seqOf, DL.listOf, keepOf, List.map_cons, List.map_nil, List.length_cons, List.length_nil, List.cons_append, List.nil_append, Nat.reduceAdd, Nat.reduceSub, List.replicate_succ, List.replicate_zero, List.replicate, List.set_cons_zero, List.set_cons_succ, List.getElem?_cons_zero, List.getElem?_cons_succ, Int.reduceToNat, Int.reduceNeg, Bool.false_eq_true, if_true, if_false, decide_eq_true_eq, Option.some.injEq, exists_eq_left', exists_eq_left, true_and, and_true, D.key, D.int.injEq, D.bl.injEq, D.tup.injEq, D.ref.injEq, D.lst.injEq, D.arg.injEq, dCaught, dLam, dCallV, rdIsB, rdMulT, cdIsX, dDict0]
  by_cases e : isWd bs.length d = true
  · rw [if_neg (by rw [e]; decide)]
    exact nx
  · have e : isWd bs.length d = false := by simpa using e
    rw [if_pos (by rw [e]; rfl)]
    refine ⟨hT, _, de_law_5, rfl, by simp [lt_law], ?_⟩
    unfold de_law_5
    simp only [sSeq, sAsg, sRet, sRetN, sDrop, sIf, sPar, sDPutD, sNext, sBrk, sCont, sRaise, sAugI, sFor, sFreeze, dVar, dC, dOp, dTest, dAnd, dOr, dNot, dAndV, dOrV, dNotV, dIf, dChain, dTup, dLst, dLstM, dNil, dCons, dCB, dCall, dCallK, dRev, dSlice, oNone, oSome, dIsN, dNeg, dDGet, dDict, dPs, dPop, dPopAt, dAppend, dLc, dRgL, dRgT, gRg1, gRg2, iSeqD, iRng1D, iRng2D, tTrue, rdAdd, rdI, rdI0, rdB0, rdIx, rdMul, cdLen, cdAbs, cdInt, cdMin2, cdMax2, cdTup, cdList, cdListM, cdAll, cdAny, cdIsi, dName, dGTup, dGCons, dGNil, dGSub, startD, wipeD, seqOf, DL.listOf, keepOf, List.map_cons, List.map_nil, List.length_cons, List.length_nil, List.cons_append, List.nil_append, Nat.reduceAdd, Nat.reduceSub, List.replicate_succ, List.replicate_zero, List.replicate, List.set_cons_zero, List.set_cons_succ, List.getElem?_cons_zero, List.getElem?_cons_succ, Int.reduceToNat, Int.reduceNeg, Bool.false_eq_true, if_true, if_false, decide_eq_true_eq, Option.some.injEq, exists_eq_left', exists_eq_left, true_and, and_true, D.key, D.int.injEq, D.bl.injEq, D.tup.injEq, D.ref.injEq, D.lst.injEq, D.arg.injEq, dCaught, dLam, dCallV, rdIsB, rdMulT, cdIsX, dDict0]
    refine bad_undone B hV e ⟨by simp [cn__law_caught], true, by simp [isxT], ?_⟩
    rw [if_neg (by decide)]
    exact nx
theorem t_34 (hT : μ PT = some (.tbl TN)) (B : BackI bs) (hV : Vl μ d) (nx : DD.nx [some a, some (.ref q), o2, some (tI bs), o4, o5, o6, some d, some (.bl (isWd bs.length d)), o9, o10, o11, o12, o13] μ) :
    db_law_34 PT C DD [some a, some (.ref q), o2, some (tI bs), o4, o5, o6, some d, some (.bl (isWd bs.length d)), o9, o10, o11, o12, o13] μ := by
  unfold db_law_34
  simp only [sSeq, sAsg, sRet, sRetN, sDrop, sIf, sPar, sDPutD, sNext, sBrk, sCont, sRaise, sAugI, sFor, sFreeze, dVar, dC, dOp, dTest, dAnd, dOr, dNot, dAndV, dOrV, dNotV, dIf, dChain, dTup, dLst, dLstM, dNil, dCons, dCB, dCall, dCallK, dRev, dSlice, oNone, oSome, dIsN, dNeg, dDGet, dDict, dPs, dPop, dPopAt, dAppend, dLc, dRgL, dRgT, gRg1, gRg2, iSeqD, iRng1D, iRng2D, tTrue, rdAdd, rdI, rdI0, rdB0, rdIx, rdMul, cdLen, cdAbs, cdInt, cdMin2, cdMax2, cdTup, cdList, cdListM, cdAll, cdAny, cdIsi, dName, dGTup, dGCons, dGNil, dGSub, startD, wipeD, seqOf, DL.listOf, keepOf, List.map_cons, List.map_nil, List.length_cons, List.length_nil, List.cons_append, List.nil_append, Nat.reduceAdd, Nat.reduceSub, List.replicate_succ, List.replicate_zero, List.replicate, List.set_cons_zero, List.set_cons_succ, List.getElem?_cons_zero, List.getElem?_cons_succ, Int.reduceToNat, Int.reduceNeg, Bool.false_eq_true, if_true, if_false, decide_eq_true_eq, Option.some.injEq, exists_eq_left', exists_eq_left, true_and, and_true, D.key, D.int.injEq, D.bl.injEq, D.tup.injEq, D.ref.injEq, D.lst.injEq, D.arg.injEq, dCaught, dLam, dCallV, rdIsB, rdMulT, cdIsX, dDict0]
  by_cases e : isWd bs.length d = true
  · rw [if_neg (by rw [e]; decide)]
    exact t_37 hT B hV nx
  · have e : isWd bs.length d = false := by simpa using e
    rw [if_pos (by rw [e]; rfl)]
    refine ⟨hT, _, de_law_4, rfl, by simp [lt_law], ?_⟩
    unfold de_law_4
    simp only [sSeq, sAsg, sRet, sRetN, sDrop, sIf, sPar, sDPutD, sNext, sBrk, sCont, sRaise, sAugI, sFor, sFreeze, dVar, dC, dOp, dTest, dAnd, dOr, dNot, dAndV, dOrV, dNotV, dIf, dChain, dTup, dLst, dLstM, dNil, dCons, dCB, dCall, dCallK, dRev, dSlice, oNone, oSome, dIsN, dNeg, dDGet, dDict, dPs, dPop, dPopAt, dAppend, dLc, dRgL, dRgT, gRg1, gRg2, iSeqD, iRng1D, iRng2D, tTrue, rdAdd, rdI, rdI0, rdB0, rdIx, rdMul, cdLen, cdAbs, cdInt, cdMin2, cdMax2, cdTup, cdList, cdListM, cdAll, cdAny, cdIsi, dName, dGTup, dGCons, dGNil, dGSub, startD, wipeD, seqOf, DL.listOf, keepOf, List.map_cons, List.map_nil, List.length_cons, List.length_nil, List.cons_append, List.nil_append, Nat.reduceAdd, Nat.reduceSub, List.replicate_succ, List.replicate_zero, List.replicate, List.set_cons_zero, List.set_cons_succ, List.getElem?_cons_zero, List.getElem?_cons_succ, Int.reduceToNat, Int.reduceNeg, Bool.false_eq_true, if_true, if_false, decide_eq_true_eq, Option.some.injEq, exists_eq_left', exists_eq_left, true_and, and_true, D.key, D.int.injEq, D.bl.injEq, D.tup.injEq, D.ref.injEq, D.lst.injEq, D.arg.injEq, dCaught, dLam, dCallV, rdIsB, rdMulT, cdIsX, dDict0]
    refine bad_free B hV e ⟨by simp [cn__law_caught], true, by simp [isxT], ?_⟩
    rw [if_neg (by decide)]
    exact t_37 hT B hV nx
/-- asked of free and of undone -/
theorem t_30 (hT : μ PT = some (.tbl TN)) (B : BackI bs) (hV : Vl μ d) (nx : ∀ o13, DD.nx [some a, some (.ref q), o2, some (tI bs), o4, o5, o6, some d, some (.bl (isWd bs.length d)), o9, o10, o11, o12, o13] μ) :
    db_law_30 PT C DD [some a, some (.ref q), o2, some (tI bs), o4, o5, o6, some d, some (.bl (isWd bs.length d)), o9, o10, o11, o12, o13] μ := by
  unfold db_law_30
  simp only [sSeq, sAsg, sRet, sRetN, sDrop, sIf, sPar, sDPutD, sNext, sBrk, sCont, sRaise, sAugI, sFor, sFreeze, dVar, dC, dOp, dTest, dAnd, dOr, dNot, dAndV, dOrV, dNotV, dIf, dChain, dTup, dLst, dLstM, dNil, dCons, dCB, dCall, dCallK, dRev, dSlice, oNone, oSome, dIsN, dNeg, dDGet, dDict, dPs, dPop, dPopAt, dAppend, dLc, dRgL, dRgT, gRg1, gRg2, iSeqD, iRng1D, iRng2D, tTrue, rdAdd, rdI, rdI0, rdB0, rdIx, rdMul, cdLen, cdAbs, cdInt, cdMin2, cdMax2, cdTup, cdList, cdListM, cdAll, cdAny, cdIsi, dName, dGTup, dGCons, dGNil, dGSub, startD, wipeD, seqOf, DL.listOf, keepOf, List.map_cons, List.map_nil, List.length_cons, List.length_nil, List.cons_append, List.nil_append, Nat.reduceAdd, Nat.reduceSub, List.replicate_succ, List.replicate_zero, List.replicate, List.set_cons_zero, List.set_cons_succ, List.getElem?_cons_zero, List.getElem?_cons_succ, Int.reduceToNat, Int.reduceNeg, Bool.false_eq_true, if_true, if_false, decide_eq_true_eq, Option.some.injEq, exists_eq_left', exists_eq_left, true_and, and_true, D.key, D.int.injEq, D.bl.injEq, D.tup.injEq, D.ref.injEq, D.lst.injEq, D.arg.injEq, dCaught, dLam, dCallV, rdIsB, rdMulT, cdIsX, dDict0]
  refine ⟨sl_ok (by decide), ?_⟩
  refine ⟨fun i ρ' μ' => (∃ o13, ρ' = [some a, some (.ref q), o2, some (tI bs), o4, o5, o6, some d, some (.bl (isWd bs.length d)), o9, o10, o11, o12, o13]) ∧ μ' = μ, ⟨⟨_, rfl⟩, rfl⟩, fun _ _ _ _ _ => trivial, ?_, ?_⟩
  · rintro i x ρ' μ' hx ⟨⟨p13, rfl⟩, rfl⟩
    simp only [sSeq, sAsg, sRet, sRetN, sDrop, sIf, sPar, sDPutD, sNext, sBrk, sCont, sRaise, sAugI, sFor, sFreeze, dVar, dC, dOp, dTest, dAnd, dOr, dNot, dAndV, dOrV, dNotV, dIf, dChain, dTup, dLst, dLstM, dNil, dCons, dCB, dCall, dCallK, dRev, dSlice, oNone, oSome, dIsN, dNeg, dDGet, dDict, dPs, dPop, dPopAt, dAppend, dLc, dRgL, dRgT, gRg1, gRg2, iSeqD, iRng1D, iRng2D, tTrue, rdAdd, rdI, rdI0, rdB0, rdIx, rdMul, cdLen, cdAbs, cdInt, cdMin2, cdMax2, cdTup, cdList, cdListM, cdAll, cdAny, cdIsi, dName, dGTup, dGCons, dGNil, dGSub, startD, wipeD, seqOf, DL.listOf, keepOf, List.map_cons, List.map_nil, List.length_cons, List.length_nil, List.cons_append, List.nil_append, Nat.reduceAdd, Nat.reduceSub, List.replicate_succ, List.replicate_zero, List.replicate, List.set_cons_zero, List.set_cons_succ, List.getElem?_cons_zero, List.getElem?_cons_succ, Int.reduceToNat, Int.reduceNeg, Bool.false_eq_true, if_true, if_false, decide_eq_true_eq, Option.some.injEq, exists_eq_left', exists_eq_left, true_and, and_true, D.key, D.int.injEq, D.bl.injEq, D.tup.injEq, D.ref.injEq, D.lst.injEq, D.arg.injEq, dCaught, dLam, dCallV, rdIsB, rdMulT, cdIsX, dDict0]
    have h := List.mem_of_getElem? hx
    simp only [List.mem_cons, List.not_mem_nil, or_false] at h
    refine ⟨hT, _, de_law_3, rfl, by simp [lt_law], ?_⟩
    unfold de_law_3
    simp only [sSeq, sAsg, sRet, sRetN, sDrop, sIf, sPar, sDPutD, sNext, sBrk, sCont, sRaise, sAugI, sFor, sFreeze, dVar, dC, dOp, dTest, dAnd, dOr, dNot, dAndV, dOrV, dNotV, dIf, dChain, dTup, dLst, dLstM, dNil, dCons, dCB, dCall, dCallK, dRev, dSlice, oNone, oSome, dIsN, dNeg, dDGet, dDict, dPs, dPop, dPopAt, dAppend, dLc, dRgL, dRgT, gRg1, gRg2, iSeqD, iRng1D, iRng2D, tTrue, rdAdd, rdI, rdI0, rdB0, rdIx, rdMul, cdLen, cdAbs, cdInt, cdMin2, cdMax2, cdTup, cdList, cdListM, cdAll, cdAny, cdIsi, dName, dGTup, dGCons, dGNil, dGSub, startD, wipeD, seqOf, DL.listOf, keepOf, List.map_cons, List.map_nil, List.length_cons, List.length_nil, List.cons_append, List.nil_append, Nat.reduceAdd, Nat.reduceSub, List.replicate_succ, List.replicate_zero, List.replicate, List.set_cons_zero, List.set_cons_succ, List.getElem?_cons_zero, List.getElem?_cons_succ, Int.reduceToNat, Int.reduceNeg, Bool.false_eq_true, if_true, if_false, decide_eq_true_eq, Option.some.injEq, exists_eq_left', exists_eq_left, true_and, and_true, D.key, D.int.injEq, D.bl.injEq, D.tup.injEq, D.ref.injEq, D.lst.injEq, D.arg.injEq, dCaught, dLam, dCallV, rdIsB, rdMulT, cdIsX, dDict0]
    by_cases e : isWd bs.length d = true
    · rcases h with rfl | rfl
      · refine ⟨_, sd_free, rfl, by simp, good_free B hV e fun x => eq_bl ⟨_, rfl, ?_⟩⟩
        rw [if_neg (by rw [e]; decide)]
        exact ⟨⟨_, rfl⟩, rfl⟩
      · refine ⟨_, sd_undone, rfl, by simp, good_undone B hV e fun x => eq_bl ⟨_, rfl, ?_⟩⟩
        rw [if_neg (by rw [e]; decide)]
        exact ⟨⟨_, rfl⟩, rfl⟩
    · have e : isWd bs.length d = false := by simpa using e
      rcases h with rfl | rfl
      · refine ⟨_, sd_free, rfl, by simp, bad_free B hV e ⟨by simp [cn__law_caught], eq_bl ⟨_, rfl, ?_⟩⟩⟩
        rw [if_neg (by rw [e]; decide)]
        exact ⟨⟨_, rfl⟩, rfl⟩
      · refine ⟨_, sd_undone, rfl, by simp, bad_undone B hV e ⟨by simp [cn__law_caught], eq_bl ⟨_, rfl, ?_⟩⟩⟩
        rw [if_neg (by rw [e]; decide)]
        exact ⟨⟨_, rfl⟩, rfl⟩
  · rintro ρ' μ' ⟨⟨p13, rfl⟩, rfl⟩
    exact t_34 hT B hV (nx _)
theorem t_28 {ls : List Int} (hT : μ PT = some (.tbl TN)) (B : BackI bs) (hV : Vl μ d) (nx : ∀ o8 o13, DD.nx [some a, some (.ref q), o2, some (tI bs), o4, o5, o6, some d, o8, o9, o10, some (tI ls), o12, o13] μ) (ct : ∀ o8 o13, DD.ct [some a, some (.ref q), o2, some (tI bs), o4, o5, o6, some d, o8, o9, o10, some (tI ls), o12, o13] μ) :
    db_law_28 PT C DD [some a, some (.ref q), o2, some (tI bs), o4, o5, o6, some d, some (.bl (isWd bs.length d)), o9, o10, some (tI ls), o12, o13] μ := by
  have rest := t_30 (C := C) (DD := DD) (q := q) (a := a) (o2 := o2) (o4 := o4) (o5 := o5) (o6 := o6) (o9 := o9) (o10 := o10) (o11 := some (tI ls)) (o12 := o12) (o13 := o13) hT B hV fun o13 => nx _ o13
  unfold db_law_28
  simp only [sSeq, sAsg, sRet, sRetN, sDrop, sIf, sPar, sDPutD, sNext, sBrk, sCont, sRaise, sAugI, sFor, sFreeze, dVar, dC, dOp, dTest, dAnd, dOr, dNot, dAndV, dOrV, dNotV, dIf, dChain, dTup, dLst, dLstM, dNil, dCons, dCB, dCall, dCallK, dRev, dSlice, oNone, oSome, dIsN, dNeg, dDGet, dDict, dPs, dPop, dPopAt, dAppend, dLc, dRgL, dRgT, gRg1, gRg2, iSeqD, iRng1D, iRng2D, tTrue, rdAdd, rdI, rdI0, rdB0, rdIx, rdMul, cdLen, cdAbs, cdInt, cdMin2, cdMax2, cdTup, cdList, cdListM, cdAll, cdAny, cdIsi, dName, dGTup, dGCons, dGNil, dGSub, startD, wipeD, seqOf, DL.listOf, keepOf, List.map_cons, List.map_nil, List.length_cons, List.length_nil, List.cons_append, List.nil_append, Nat.reduceAdd, Nat.reduceSub, List.replicate_succ, List.replicate_zero, List.replicate, List.set_cons_zero, List.set_cons_succ, List.getElem?_cons_zero, List.getElem?_cons_succ, Int.reduceToNat, Int.reduceNeg, Bool.false_eq_true, if_true, if_false, decide_eq_true_eq, Option.some.injEq, exists_eq_left', exists_eq_left, true_and, and_true, D.key, D.int.injEq, D.bl.injEq, D.tup.injEq, D.ref.injEq, D.lst.injEq, D.arg.injEq, dCaught, dLam, dCallV, rdIsB, rdMulT, cdIsX, dDict0]
  by_cases e : isWd bs.length d = true
  · rw [if_pos e]
    obtain ⟨xs, rfl, _, _⟩ := isWd_inv e
    refine eq_tI ⟨_, rfl, ?_⟩
    split
    · exact ct _ _
    · exact rest
  · rw [if_neg e]
    exact rest
theorem word_of {Q : DQ} {E : XQ} (B : BackI bs) (hV : Vl μ d) (h : Q (.bl (isWd bs.length d)) μ) : sd_is_word [tI bs, d] μ Q E :=
  ⟨tI bs, d, rfl, (vl_tI (by have := B.few; omega)).1, fun _ => ⟨hV.1, hV.big, by rw [len_tI]; exact h⟩, fun e => absurd e (by rw [back_tI B]; decide)⟩
/-- one value, judged as a word -/
theorem t_25 {ls : List Int} (hT : μ PT = some (.tbl TN)) (B : BackI bs) (hV : Vl μ d) (nx : ∀ o8 o13, DD.nx [some a, some (.ref q), o2, some (tI bs), o4, o5, o6, some d, o8, o9, o10, some (tI ls), o12, o13] μ) (ct : ∀ o8 o13, DD.ct [some a, some (.ref q), o2, some (tI bs), o4, o5, o6, some d, o8, o9, o10, some (tI ls), o12, o13] μ) :
    db_law_25 PT C DD [some a, some (.ref q), o2, some (tI bs), o4, o5, o6, some d, o8, o9, o10, some (tI ls), o12, o13] μ := by
  unfold db_law_25
  simp only [sSeq, sAsg, sRet, sRetN, sDrop, sIf, sPar, sDPutD, sNext, sBrk, sCont, sRaise, sAugI, sFor, sFreeze, dVar, dC, dOp, dTest, dAnd, dOr, dNot, dAndV, dOrV, dNotV, dIf, dChain, dTup, dLst, dLstM, dNil, dCons, dCB, dCall, dCallK, dRev, dSlice, oNone, oSome, dIsN, dNeg, dDGet, dDict, dPs, dPop, dPopAt, dAppend, dLc, dRgL, dRgT, gRg1, gRg2, iSeqD, iRng1D, iRng2D, tTrue, rdAdd, rdI, rdI0, rdB0, rdIx, rdMul, cdLen, cdAbs, cdInt, cdMin2, cdMax2, cdTup, cdList, cdListM, cdAll, cdAny, cdIsi, dName, dGTup, dGCons, dGNil, dGSub, startD, wipeD, seqOf, DL.listOf, keepOf, List.map_cons, List.map_nil, List.length_cons, List.length_nil, List.cons_append, List.nil_append, Nat.reduceAdd, Nat.reduceSub, List.replicate_succ, List.replicate_zero, List.replicate, List.set_cons_zero, List.set_cons_succ, List.getElem?_cons_zero, List.getElem?_cons_succ, Int.reduceToNat, Int.reduceNeg, Bool.false_eq_true, if_true, if_false, decide_eq_true_eq, Option.some.injEq, exists_eq_left', exists_eq_left, true_and, and_true, D.key, D.int.injEq, D.bl.injEq, D.tup.injEq, D.ref.injEq, D.lst.injEq, D.arg.injEq, dCaught, dLam, dCallV, rdIsB, rdMulT, cdIsX, dDict0]
  refine ⟨bs.map .int, d, rfl, hV, ?_⟩
  rw [List.length_map]
  refine word_of B hV ⟨_, _, rfl, _, rfl, ?_⟩
  rw [if_neg (by simp)]
  refine ⟨[tI bs, d], rfl, word_of B hV ⟨_, _, rfl, _, rfl, ?_⟩⟩
  rw [if_neg (by simp)]
  exact t_28 hT B hV nx ct
end
/-- what may be put in a word's or a back's place -/
def oddW (x : D) : Prop := (∃ i, x = .int i) ∨ x = .bl true ∨ x = .non ∨ x = .str "0" ∨ x = .tup [.int 0]
theorem oddW.smp {x : D} (h : oddW x) : Smp x := by
  rcases h with ⟨i, rfl⟩ | rfl | rfl | rfl | rfl
  · exact smp_int
  · exact smp_bl
  · exact smp_non
  · exact smp_zero
  · exact smp_tup (ns := [0])
/-- the long word -/
def lngI : List Int := (List.replicate 100 [0, 1]).flatten
theorem lng_eq : (List.replicate 100 [D.int 0, D.int 1]).flatten = lngI.map D.int := by
  unfold lngI
  rw [List.map_flatten, List.map_replicate]
  rfl
theorem lng_len : lngI.length = 200 := by decide +kernel
section
variable {PT q l : Addr} {C : List (Str × Addr)} {DD : DEnds} {μ : Mu} {a d : D} {bs ws : List Int} {o2 o3 o4 o5 o6 o7 o8 o9 o10 o11 o12 o13 : Option D}
/-- the nine values judged as words -/
theorem t_24 {ns : List D} (hT : μ PT = some (.tbl TN)) (B : BackI bs) (hw : ws.length ≤ 9) (hn : ns.length ≤ 10) (hs : ∀ x ∈ ns, Smp x) (nx : ∀ o7 o8 o13 μ', Le μ μ' → DD.nx [some a, some (.ref q), o2, some (tI bs), o4, o5, o6, o7, o8, o9, some (tI ws), some (tI lngI), some (.tup ns), o13] μ') :
    db_law_24 PT C DD [some a, some (.ref q), o2, some (tI bs), o4, o5, o6, o7, o8, o9, some (tI ws), some (tI lngI), some (.tup ns), o13] μ := by
  unfold db_law_24
  simp only [sSeq, sAsg, sRet, sRetN, sDrop, sIf, sPar, sDPutD, sNext, sBrk, sCont, sRaise, sAugI, sFor, sFreeze, dVar, dC, dOp, dTest, dAnd, dOr, dNot, dAndV, dOrV, dNotV, dIf, dChain, dTup, dLst, dLstM, dNil, dCons, dCB, dCall, dCallK, dRev, dSlice, oNone, oSome, dIsN, dNeg, dDGet, dDict, dPs, dPop, dPopAt, dAppend, dLc, dRgL, dRgT, gRg1, gRg2, iSeqD, iRng1D, iRng2D, tTrue, rdAdd, rdI, rdI0, rdB0, rdIx, rdMul, cdLen, cdAbs, cdInt, cdMin2, cdMax2, cdTup, cdList, cdListM, cdAll, cdAny, cdIsi, dName, dGTup, dGCons, dGNil, dGSub, startD, wipeD, seqOf, DL.listOf, keepOf, List.map_cons, List.map_nil, List.length_cons, List.length_nil, List.cons_append, List.nil_append, Nat.reduceAdd, Nat.reduceSub, List.set_cons_zero, List.set_cons_succ, List.getElem?_cons_zero, List.getElem?_cons_succ, Int.reduceToNat, Int.reduceNeg, Bool.false_eq_true, if_true, if_false, decide_eq_true_eq, Option.some.injEq, exists_eq_left', exists_eq_left, true_and, and_true, D.key, D.int.injEq, D.bl.injEq, D.tup.injEq, D.ref.injEq, D.lst.injEq, D.arg.injEq, dCaught, dLam, dCallV, rdIsB, cdIsX, dDict0]
  refine ⟨sl_ok (by decide), sl_ok (by rw [List.length_map, lng_len]; decide), fun p hp => ⟨sl_ok (by decide), ?_⟩⟩
  obtain ⟨μ1, hμ⟩ : ∃ μ1, μ1 = mset μ p (.dct []) := ⟨_, rfl⟩
  have l1 : Le μ μ1 := by rw [hμ]; exact Le.new hp
  have p1 : μ1 p = some (.dct []) := by rw [hμ]; exact mset_same
  rw [← hμ]
  refine ⟨fun i ρ' μ' => (∃ o7 o8 o13, ρ' = [some a, some (.ref q), o2, some (tI bs), o4, o5, o6, o7, o8, o9, some (tI ws), some (tI lngI), some (.tup ns), o13]) ∧ μ' = μ1, ⟨⟨_, _, _, rfl⟩, rfl⟩, fun _ _ _ _ _ => trivial, ?_, ?_⟩
  · rintro i x ρ' μ' hx ⟨⟨p7, p8, p13, rfl⟩, rfl⟩
    simp only [sSeq, sAsg, sRet, sRetN, sDrop, sIf, sPar, sDPutD, sNext, sBrk, sCont, sRaise, sAugI, sFor, sFreeze, dVar, dC, dOp, dTest, dAnd, dOr, dNot, dAndV, dOrV, dNotV, dIf, dChain, dTup, dLst, dLstM, dNil, dCons, dCB, dCall, dCallK, dRev, dSlice, oNone, oSome, dIsN, dNeg, dDGet, dDict, dPs, dPop, dPopAt, dAppend, dLc, dRgL, dRgT, gRg1, gRg2, iSeqD, iRng1D, iRng2D, tTrue, rdAdd, rdI, rdI0, rdB0, rdIx, rdMul, cdLen, cdAbs, cdInt, cdMin2, cdMax2, cdTup, cdList, cdListM, cdAll, cdAny, cdIsi, dName, dGTup, dGCons, dGNil, dGSub, startD, wipeD, seqOf, DL.listOf, keepOf, List.map_cons, List.map_nil, List.length_cons, List.length_nil, List.cons_append, List.nil_append, Nat.reduceAdd, Nat.reduceSub, List.set_cons_zero, List.set_cons_succ, List.getElem?_cons_zero, List.getElem?_cons_succ, Int.reduceToNat, Int.reduceNeg, Bool.false_eq_true, if_true, if_false, decide_eq_true_eq, Option.some.injEq, exists_eq_left', exists_eq_left, true_and, and_true, D.key, D.int.injEq, D.bl.injEq, D.tup.injEq, D.ref.injEq, D.lst.injEq, D.arg.injEq, dCaught, dLam, dCallV, rdIsB, cdIsX, dDict0]
    have h := List.mem_of_getElem? hx
    have hV : Vl μ' x := by
      simp only [List.mem_cons, List.not_mem_nil, or_false] at h
      rcases h with rfl | rfl | rfl | rfl | rfl | rfl | rfl | rfl | rfl
      · exact vl_tI (by omega)
      · exact vl_tup (by omega) hs
      · exact vl_oth (t := "list") rfl (fun _ z => by cases z)
      · exact vl_tI (by rw [lng_len]; decide)
      · have e : lngI.map D.int ++ [D.int 0] = (lngI ++ [0]).map D.int := by rw [List.map_append]; rfl
        rw [e]
        exact vl_tI (by rw [List.length_append, lng_len]; decide)
      · exact vl_oth (t := "NoneType") rfl (fun _ z => by cases z)
      · exact vl_oth (t := "int") rfl (fun _ z => by cases z)
      · exact vl_oth (t := "str") rfl (fun _ z => by cases z)
      · refine vl_oth (t := "dict") ?_ (fun _ z => by cases z)
        show (match μ' p with | some (.lst _) => some "list" | some (.dct _) => some "dict" | _ => none) = some "dict"
        rw [p1]
    exact t_25 (l1 _ _ hT) B hV (fun _ _ => ⟨⟨_, _, _, rfl⟩, rfl⟩) (fun _ _ => ⟨⟨_, _, _, rfl⟩, rfl⟩)
  · rintro ρ' μ' ⟨⟨p7, p8, p13, rfl⟩, rfl⟩
    exact nx _ _ _ _ l1
theorem t_23 (hT : μ PT = some (.tbl TN)) (D1 : DrawAt μ q l) (B : BackI bs) (hw : ws.length ≤ 9) (nx : ∀ o7 o8 o12 o13 μ', μ' PT = some (.tbl TN) → DrawAt μ' q l → DD.nx [some a, some (.ref q), o2, some (tI bs), o4, o5, o6, o7, o8, o9, some (tI ws), some (tI lngI), o12, o13] μ') :
    db_law_23 PT C DD [some a, some (.ref q), o2, some (tI bs), o4, o5, o6, o7, o8, o9, some (tI ws), some (tI lngI), o12, o13] μ := by
  unfold db_law_23
  simp only [sSeq, sAsg, sRet, sRetN, sDrop, sIf, sPar, sDPutD, sNext, sBrk, sCont, sRaise, sAugI, sFor, sFreeze, dVar, dC, dOp, dTest, dAnd, dOr, dNot, dAndV, dOrV, dNotV, dIf, dChain, dTup, dLst, dLstM, dNil, dCons, dCB, dCall, dCallK, dRev, dSlice, oNone, oSome, dIsN, dNeg, dDGet, dDict, dPs, dPop, dPopAt, dAppend, dLc, dRgL, dRgT, gRg1, gRg2, iSeqD, iRng1D, iRng2D, tTrue, rdAdd, rdI, rdI0, rdB0, rdIx, rdMul, cdLen, cdAbs, cdInt, cdMin2, cdMax2, cdTup, cdList, cdListM, cdAll, cdAny, cdIsi, dName, dGTup, dGCons, dGNil, dGSub, startD, wipeD, seqOf, DL.listOf, keepOf, List.map_cons, List.map_nil, List.length_cons, List.length_nil, List.cons_append, List.nil_append, Nat.reduceAdd, Nat.reduceSub, List.set_cons_zero, List.set_cons_succ, List.getElem?_cons_zero, List.getElem?_cons_succ, Int.reduceToNat, Int.reduceNeg, Bool.false_eq_true, if_true, if_false, decide_eq_true_eq, Option.some.injEq, exists_eq_left', exists_eq_left, true_and, and_true, D.key, D.int.injEq, D.bl.injEq, D.tup.injEq, D.ref.injEq, D.lst.injEq, D.arg.injEq, dCaught, dLam, dCallV, rdIsB, cdIsX, dDict0]
  refine ⟨sl_ok (by decide), sl_ok (by decide), q, l, _, _, rfl, .inl rfl, by show 0 < 6; decide, by show 6 < 100000; decide, D1, fun i x μ1 hx D2 K2 => ⟨sl_ok (by decide), sl_ok (by rw [List.length_map]; omega), ?_⟩⟩
  have hx := List.mem_of_getElem? hx
  have o : Smp x := by
    simp only [List.mem_cons, List.not_mem_nil, or_false] at hx
    rcases hx with rfl | rfl | rfl | rfl | rfl | rfl
    · exact smp_int
    · exact smp_int
    · exact smp_bl
    · exact smp_non
    · exact smp_zero
    · exact smp_tup (ns := [0])
  refine t_24 (keepT D1 hT K2) B hw (by rw [List.length_append, List.length_map]; show _ + 1 ≤ _; omega) (fun y hy => ?_) fun _ _ _ μ' l2 => nx _ _ _ _ _ (l2 _ _ (keepT D1 hT K2)) (draw_le D2 l2)
  rcases List.mem_append.mp hy with hy | hy
  · exact smp_ints y hy
  · rw [List.mem_singleton.mp hy]
    exact o
theorem t_22 (hT : μ PT = some (.tbl TN)) (D1 : DrawAt μ q l) (B : BackI bs) (hw : ws.length ≤ 9) (nx : ∀ o7 o8 o11 o12 o13 μ', μ' PT = some (.tbl TN) → DrawAt μ' q l → DD.nx [some a, some (.ref q), o2, some (tI bs), o4, o5, o6, o7, o8, o9, some (tI ws), o11, o12, o13] μ') :
    db_law_22 PT C DD [some a, some (.ref q), o2, some (tI bs), o4, o5, o6, o7, o8, o9, some (tI ws), o11, o12, o13] μ := by
  unfold db_law_22
  simp only [sSeq, sAsg, sRet, sRetN, sDrop, sIf, sPar, sDPutD, sNext, sBrk, sCont, sRaise, sAugI, sFor, sFreeze, dVar, dC, dOp, dTest, dAnd, dOr, dNot, dAndV, dOrV, dNotV, dIf, dChain, dTup, dLst, dLstM, dNil, dCons, dCB, dCall, dCallK, dRev, dSlice, oNone, oSome, dIsN, dNeg, dDGet, dDict, dPs, dPop, dPopAt, dAppend, dLc, dRgL, dRgT, gRg1, gRg2, iSeqD, iRng1D, iRng2D, tTrue, rdAdd, rdI, rdI0, rdB0, rdIx, rdMul, cdLen, cdAbs, cdInt, cdMin2, cdMax2, cdTup, cdList, cdListM, cdAll, cdAny, cdIsi, dName, dGTup, dGCons, dGNil, dGSub, startD, wipeD, seqOf, DL.listOf, keepOf, List.map_cons, List.map_nil, List.length_cons, List.length_nil, List.cons_append, List.nil_append, Nat.reduceAdd, Nat.reduceSub, List.set_cons_zero, List.set_cons_succ, List.getElem?_cons_zero, List.getElem?_cons_succ, Int.reduceToNat, Int.reduceNeg, Bool.false_eq_true, if_true, if_false, decide_eq_true_eq, Option.some.injEq, exists_eq_left', exists_eq_left, true_and, and_true, D.key, D.int.injEq, D.bl.injEq, D.tup.injEq, D.ref.injEq, D.lst.injEq, D.arg.injEq, dCaught, dLam, dCallV, rdIsB, cdIsX, dDict0]
  refine ⟨sl_ok (by decide), by simp, by decide, by decide, by decide, ?_⟩
  show db_law_23 PT C DD [some a, some (.ref q), o2, some (tI bs), o4, o5, o6, o7, o8, o9, some (tI ws), some (.tup (List.replicate 100 [D.int 0, D.int 1]).flatten), o12, o13] μ
  rw [lng_eq]
  exact t_23 hT D1 B hw fun _ _ _ _ => nx _ _ _ _ _
theorem t_21 (hT : μ PT = some (.tbl TN)) (D1 : DrawAt μ q l) (B : BackI bs) (nx : ∀ o7 o8 o10 o11 o12 o13 μ', μ' PT = some (.tbl TN) → DrawAt μ' q l → DD.nx [some a, some (.ref q), o2, some (tI bs), o4, o5, o6, o7, o8, o9, o10, o11, o12, o13] μ') :
    db_law_21 PT C DD [some a, some (.ref q), o2, some (tI bs), o4, o5, o6, o7, o8, o9, o10, o11, o12, o13] μ := by
  unfold db_law_21
  simp only [sSeq, sAsg, sRet, sRetN, sDrop, sIf, sPar, sDPutD, sNext, sBrk, sCont, sRaise, sAugI, sFor, sFreeze, dVar, dC, dOp, dTest, dAnd, dOr, dNot, dAndV, dOrV, dNotV, dIf, dChain, dTup, dLst, dLstM, dNil, dCons, dCB, dCall, dCallK, dRev, dSlice, oNone, oSome, dIsN, dNeg, dDGet, dDict, dPs, dPop, dPopAt, dAppend, dLc, dRgL, dRgT, gRg1, gRg2, iSeqD, iRng1D, iRng2D, tTrue, rdAdd, rdI, rdI0, rdB0, rdIx, rdMul, cdLen, cdAbs, cdInt, cdMin2, cdMax2, cdTup, cdList, cdListM, cdAll, cdAny, cdIsi, dName, dGTup, dGCons, dGNil, dGSub, startD, wipeD, seqOf, DL.listOf, keepOf, List.map_cons, List.map_nil, List.length_cons, List.length_nil, List.cons_append, List.nil_append, Nat.reduceAdd, Nat.reduceSub, List.set_cons_zero, List.set_cons_succ, List.getElem?_cons_zero, List.getElem?_cons_succ, Int.reduceToNat, Int.reduceNeg, Bool.false_eq_true, if_true, if_false, decide_eq_true_eq, Option.some.injEq, exists_eq_left', exists_eq_left, true_and, and_true, D.key, D.int.injEq, D.bl.injEq, D.tup.injEq, D.ref.injEq, D.lst.injEq, D.arg.injEq, dCaught, dLam, dCallV, rdIsB, cdIsX, dDict0]
  have b2 := B.two
  have bf := B.few
  refine ⟨q, l, bs.map .int, 9, rfl, by rw [List.length_map]; omega, by rw [List.length_map]; omega, by decide, by decide, D1, fun ws μ1 hw _ D2 K2 => ?_⟩
  exact t_22 (keepT D1 hT K2) D2 B (by omega) fun _ _ _ _ _ => nx _ _ _ _ _ _
theorem t_7 {w1 w2 : List D} (hT : μ PT = some (.tbl TN)) (D1 : DrawAt μ q l) (B : BackI bs) (h1 : Vl μ (.tup w1)) (h2 : Vl μ (.tup w2)) (nx : ∀ o7 o8 o9 o10 o11 o12 o13 μ', μ' PT = some (.tbl TN) → DrawAt μ' q l → DD.nx [some a, some (.ref q), o2, some (tI bs), some (.tup w1), o5, some (.tup w2), o7, o8, o9, o10, o11, o12, o13] μ') :
    db_law_7 PT C DD [some a, some (.ref q), o2, some (tI bs), some (.tup w1), o5, some (.tup w2), o7, o8, o9, o10, o11, o12, o13] μ := by
  unfold db_law_7
  simp only [sSeq, sAsg, sRet, sRetN, sDrop, sIf, sPar, sDPutD, sNext, sBrk, sCont, sRaise, sAugI, sFor, sFreeze, dVar, dC, dOp, dTest, dAnd, dOr, dNot, dAndV, dOrV, dNotV, dIf, dChain, dTup, dLst, dLstM, dNil, dCons, dCB, dCall, dCallK, dRev, dSlice, oNone, oSome, dIsN, dNeg, dDGet, dDict, dPs, dPop, dPopAt, dAppend, dLc, dRgL, dRgT, gRg1, gRg2, iSeqD, iRng1D, iRng2D, tTrue, rdAdd, rdI, rdI0, rdB0, rdIx, rdMul, cdLen, cdAbs, cdInt, cdMin2, cdMax2, cdTup, cdList, cdListM, cdAll, cdAny, cdIsi, dName, dGTup, dGCons, dGNil, dGSub, startD, wipeD, seqOf, DL.listOf, keepOf, List.map_cons, List.map_nil, List.length_cons, List.length_nil, List.cons_append, List.nil_append, Nat.reduceAdd, Nat.reduceSub, List.replicate_succ, List.replicate_zero, List.replicate, List.set_cons_zero, List.set_cons_succ, List.getElem?_cons_zero, List.getElem?_cons_succ, Int.reduceToNat, Int.reduceNeg, Bool.false_eq_true, if_true, if_false, decide_eq_true_eq, Option.some.injEq, exists_eq_left', exists_eq_left, true_and, and_true, D.key, D.int.injEq, D.bl.injEq, D.tup.injEq, D.ref.injEq, D.lst.injEq, D.arg.injEq, dCaught, dLam, dCallV, rdIsB, rdMulT, cdIsX, dDict0]
  refine ⟨sl_ok (by decide), sl_ok (by decide), sl_ok (by decide), sl_ok (by decide), sl_ok (by decide), by simp, by decide, by decide, by decide, sl_ok (by decide), ?_⟩
  refine ⟨fun i ρ' μ' => (∃ o7 o8 o9, ρ' = [some a, some (.ref q), o2, some (tI bs), some (.tup w1), o5, some (.tup w2), o7, o8, o9, o10, o11, o12, o13]) ∧ μ' = μ, ⟨⟨_, _, _, rfl⟩, rfl⟩, fun _ _ _ _ _ => trivial, ?_, ?_⟩
  · rintro i x ρ' μ' hx ⟨⟨p7, p8, p9, rfl⟩, rfl⟩
    simp only [sSeq, sAsg, sRet, sRetN, sDrop, sIf, sPar, sDPutD, sNext, sBrk, sCont, sRaise, sAugI, sFor, sFreeze, dVar, dC, dOp, dTest, dAnd, dOr, dNot, dAndV, dOrV, dNotV, dIf, dChain, dTup, dLst, dLstM, dNil, dCons, dCB, dCall, dCallK, dRev, dSlice, oNone, oSome, dIsN, dNeg, dDGet, dDict, dPs, dPop, dPopAt, dAppend, dLc, dRgL, dRgT, gRg1, gRg2, iSeqD, iRng1D, iRng2D, tTrue, rdAdd, rdI, rdI0, rdB0, rdIx, rdMul, cdLen, cdAbs, cdInt, cdMin2, cdMax2, cdTup, cdList, cdListM, cdAll, cdAny, cdIsi, dName, dGTup, dGCons, dGNil, dGSub, startD, wipeD, seqOf, DL.listOf, keepOf, List.map_cons, List.map_nil, List.length_cons, List.length_nil, List.cons_append, List.nil_append, Nat.reduceAdd, Nat.reduceSub, List.set_cons_zero, List.set_cons_succ, List.getElem?_cons_zero, List.getElem?_cons_succ, Int.reduceToNat, Int.reduceNeg, Bool.false_eq_true, if_true, if_false, decide_eq_true_eq, Option.some.injEq, exists_eq_left', exists_eq_left, true_and, and_true, D.key, D.int.injEq, D.bl.injEq, D.tup.injEq, D.ref.injEq, D.lst.injEq, D.arg.injEq, dCaught, dLam, dCallV, rdIsB, cdIsX, dDict0]
    have h := List.mem_of_getElem? hx
    have hV : Vl μ' x := by
      have bf := B.few
      simp only [List.mem_cons, List.not_mem_nil, or_false] at h
      rcases h with rfl | rfl | rfl | rfl | rfl | rfl | rfl | rfl | rfl | rfl | rfl | rfl | rfl
      · exact vl_tI (by omega)
      · exact h1
      · exact h2
      · exact vl_oth (t := "list") rfl (fun _ z => by cases z)
      · exact vl_tup (Nat.lt_of_le_of_lt cut_len (by rw [List.length_map]; omega)) fun y hy => smp_ints y (cut_mem hy)
      · exact vl_tI (ns := []) (by decide)
      · exact vl_oth (t := "NoneType") rfl (fun _ z => by cases z)
      · exact vl_oth (t := "int") rfl (fun _ z => by cases z)
      · exact vl_oth (t := "str") rfl (fun _ z => by cases z)
      · exact vl_tI (ns := [0]) (by decide)
      · exact vl_tI (ns := [1, 0, 2]) (by decide)
      · exact vl_tI (ns := [1, 2, 0]) (by decide)
      · exact vl_tI (ns := [0, 0]) (by decide)
    exact t_8 hT hV (fun _ _ => ⟨⟨_, _, _, rfl⟩, rfl⟩) (fun _ _ => ⟨⟨_, _, _, rfl⟩, rfl⟩)
  · rintro ρ' μ' ⟨⟨p7, p8, p9, rfl⟩, rfl⟩
    exact t_21 hT D1 B fun _ _ _ _ _ _ => nx _ _ _ _ _ _ _
theorem t_6 {w1 : List D} {sp : Int} (hT : μ PT = some (.tbl TN)) (D1 : DrawAt μ q l) (B : BackI bs) (n6 : bs.length ≤ 6) (h1 : w1.length < 1000) (hs : ∀ x ∈ w1, Smp x) (s0 : 0 ≤ sp) (s1 : sp < bs.length) (nx : ∀ o6 o7 o8 o9 o10 o11 o12 o13 μ', μ' PT = some (.tbl TN) → DrawAt μ' q l → DD.nx [some a, some (.ref q), o2, some (tI bs), some (.tup w1), some (.int sp), o6, o7, o8, o9, o10, o11, o12, o13] μ') :
    db_law_6 PT C DD [some a, some (.ref q), o2, some (tI bs), some (.tup w1), some (.int sp), o6, o7, o8, o9, o10, o11, o12, o13] μ := by
  unfold db_law_6
  simp only [sSeq, sAsg, sRet, sRetN, sDrop, sIf, sPar, sDPutD, sNext, sBrk, sCont, sRaise, sAugI, sFor, sFreeze, dVar, dC, dOp, dTest, dAnd, dOr, dNot, dAndV, dOrV, dNotV, dIf, dChain, dTup, dLst, dLstM, dNil, dCons, dCB, dCall, dCallK, dRev, dSlice, oNone, oSome, dIsN, dNeg, dDGet, dDict, dPs, dPop, dPopAt, dAppend, dLc, dRgL, dRgT, gRg1, gRg2, iSeqD, iRng1D, iRng2D, tTrue, rdAdd, rdI, rdI0, rdB0, rdIx, rdMul, cdLen, cdAbs, cdInt, cdMin2, cdMax2, cdTup, cdList, cdListM, cdAll, cdAny, cdIsi, dName, dGTup, dGCons, dGNil, dGSub, startD, wipeD, seqOf, DL.listOf, keepOf, List.map_cons, List.map_nil, List.length_cons, List.length_nil, List.cons_append, List.nil_append, Nat.reduceAdd, Nat.reduceSub, List.set_cons_zero, List.set_cons_succ, List.getElem?_cons_zero, List.getElem?_cons_succ, Int.reduceToNat, Int.reduceNeg, Bool.false_eq_true, if_true, if_false, decide_eq_true_eq, Option.some.injEq, exists_eq_left', exists_eq_left, true_and, and_true, D.key, D.int.injEq, D.bl.injEq, D.tup.injEq, D.ref.injEq, D.lst.injEq, D.arg.injEq, dCaught, dLam, dCallV, rdIsB, cdIsX, dDict0]
  refine ⟨q, l, 13, rfl, D1, by decide, by decide, fun t μ1 _ _ D2 K2 => ⟨sl_ok (by decide), sl_ok (by decide), ?_⟩⟩
  refine ⟨q, l, _, _, rfl, .inl rfl, by show 0 < 6; decide, by show 6 < 100000; decide, D2, fun i x μ2 hx D3 K3 => ?_⟩
  have hx := List.mem_of_getElem? hx
  have o : Smp x := by
    simp only [List.mem_cons, List.not_mem_nil, or_false] at hx
    rcases hx with rfl | rfl | rfl | rfl | rfl | rfl
    · exact smp_int
    · exact smp_int
    · exact smp_bl
    · exact smp_non
    · exact smp_zero
    · exact smp_tup (ns := [0])
  have c1 : (DL.cutD (bs.map D.int) none (some sp)).length ≤ 6 := Nat.le_trans cut_len (by rw [List.length_map]; exact n6)
  have c2 : (DL.cutD (bs.map D.int) (some (sp + 1)) none).length ≤ 6 := Nat.le_trans cut_len (by rw [List.length_map]; exact n6)
  have c3 : (DL.cutD (bs.map D.int) none (some sp) ++ [x]).length ≤ 7 := by rw [List.length_append]; show _ + 1 ≤ _; omega
  refine ⟨sl_ok (by decide), sl_ok (by omega), sl_ok (by omega), ?_⟩
  refine t_7 (keepT D2 (keepT D1 hT K2) K3) D3 B (vl_tup h1 hs) (vl_tup (by rw [List.length_append]; omega) fun y hy => ?_) fun _ _ _ _ _ _ _ => nx _ _ _ _ _ _ _ _
  rcases List.mem_append.mp hy with hy | hy
  · rcases List.mem_append.mp hy with hy | hy
    · exact smp_ints y (cut_mem hy)
    · rw [List.mem_singleton.mp hy]
      exact o
  · exact smp_ints y (cut_mem hy)
theorem t_5 {w1 : List D} (hT : μ PT = some (.tbl TN)) (D1 : DrawAt μ q l) (B : BackI bs) (n6 : bs.length ≤ 6) (h1 : w1.length < 1000) (hs : ∀ x ∈ w1, Smp x) (nx : ∀ o5 o6 o7 o8 o9 o10 o11 o12 o13 μ', μ' PT = some (.tbl TN) → DrawAt μ' q l → DD.nx [some a, some (.ref q), o2, some (tI bs), some (.tup w1), o5, o6, o7, o8, o9, o10, o11, o12, o13] μ') :
    db_law_5 PT C DD [some a, some (.ref q), o2, some (tI bs), some (.tup w1), o5, o6, o7, o8, o9, o10, o11, o12, o13] μ := by
  unfold db_law_5
  simp only [sSeq, sAsg, sRet, sRetN, sDrop, sIf, sPar, sDPutD, sNext, sBrk, sCont, sRaise, sAugI, sFor, sFreeze, dVar, dC, dOp, dTest, dAnd, dOr, dNot, dAndV, dOrV, dNotV, dIf, dChain, dTup, dLst, dLstM, dNil, dCons, dCB, dCall, dCallK, dRev, dSlice, oNone, oSome, dIsN, dNeg, dDGet, dDict, dPs, dPop, dPopAt, dAppend, dLc, dRgL, dRgT, gRg1, gRg2, iSeqD, iRng1D, iRng2D, tTrue, rdAdd, rdI, rdI0, rdB0, rdIx, rdMul, cdLen, cdAbs, cdInt, cdMin2, cdMax2, cdTup, cdList, cdListM, cdAll, cdAny, cdIsi, dName, dGTup, dGCons, dGNil, dGSub, startD, wipeD, seqOf, DL.listOf, keepOf, List.map_cons, List.map_nil, List.length_cons, List.length_nil, List.cons_append, List.nil_append, Nat.reduceAdd, Nat.reduceSub, List.set_cons_zero, List.set_cons_succ, List.getElem?_cons_zero, List.getElem?_cons_succ, Int.reduceToNat, Int.reduceNeg, Bool.false_eq_true, if_true, if_false, decide_eq_true_eq, Option.some.injEq, exists_eq_left', exists_eq_left, true_and, and_true, D.key, D.int.injEq, D.bl.injEq, D.tup.injEq, D.ref.injEq, D.lst.injEq, D.arg.injEq, dCaught, dLam, dCallV, rdIsB, cdIsX, dDict0]
  have b2 := B.two
  refine ⟨q, l, _, rfl, D1, by rw [List.length_map]; omega, by rw [List.length_map]; omega, fun t μ1 t0 t1 D2 K2 => ?_⟩
  rw [List.length_map] at t1
  exact t_6 (keepT D1 hT K2) D2 B n6 h1 hs t0 t1 fun _ _ _ _ _ _ _ _ => nx _ _ _ _ _ _ _ _ _
theorem t_4 (hT : μ PT = some (.tbl TN)) (D1 : DrawAt μ q l) (B : BackI bs) (n6 : bs.length ≤ 6) (nx : ∀ o4 o5 o6 o7 o8 o9 o10 o11 o12 o13 μ', μ' PT = some (.tbl TN) → DrawAt μ' q l → DD.nx [some a, some (.ref q), o2, some (tI bs), o4, o5, o6, o7, o8, o9, o10, o11, o12, o13] μ') :
    db_law_4 PT C DD [some a, some (.ref q), o2, some (tI bs), o4, o5, o6, o7, o8, o9, o10, o11, o12, o13] μ := by
  unfold db_law_4
  simp only [sSeq, sAsg, sRet, sRetN, sDrop, sIf, sPar, sDPutD, sNext, sBrk, sCont, sRaise, sAugI, sFor, sFreeze, dVar, dC, dOp, dTest, dAnd, dOr, dNot, dAndV, dOrV, dNotV, dIf, dChain, dTup, dLst, dLstM, dNil, dCons, dCB, dCall, dCallK, dRev, dSlice, oNone, oSome, dIsN, dNeg, dDGet, dDict, dPs, dPop, dPopAt, dAppend, dLc, dRgL, dRgT, gRg1, gRg2, iSeqD, iRng1D, iRng2D, tTrue, rdAdd, rdI, rdI0, rdB0, rdIx, rdMul, cdLen, cdAbs, cdInt, cdMin2, cdMax2, cdTup, cdList, cdListM, cdAll, cdAny, cdIsi, dName, dGTup, dGCons, dGNil, dGSub, startD, wipeD, seqOf, DL.listOf, keepOf, List.map_cons, List.map_nil, List.length_cons, List.length_nil, List.cons_append, List.nil_append, Nat.reduceAdd, Nat.reduceSub, List.set_cons_zero, List.set_cons_succ, List.getElem?_cons_zero, List.getElem?_cons_succ, Int.reduceToNat, Int.reduceNeg, Bool.false_eq_true, if_true, if_false, decide_eq_true_eq, Option.some.injEq, exists_eq_left', exists_eq_left, true_and, and_true, D.key, D.int.injEq, D.bl.injEq, D.tup.injEq, D.ref.injEq, D.lst.injEq, D.arg.injEq, dCaught, dLam, dCallV, rdIsB, cdIsX, dDict0]
  have b2 := B.two
  refine ⟨sl_ok (by decide), q, l, _, _, rfl, .inl rfl, by show 0 < 3; decide, by show 3 < 100000; decide, D1, fun i x μ1 hx D2 K2 => ?_⟩
  have hx := List.mem_of_getElem? hx
  obtain ⟨j, rfl, j0, j1⟩ : ∃ j : Int, x = .int j ∧ 0 ≤ j ∧ j ≤ 13 := by
    simp only [List.mem_cons, List.not_mem_nil, or_false, List.length_map] at hx
    rcases hx with rfl | rfl | rfl
    · exact ⟨12, rfl, by decide, by decide⟩
    · exact ⟨13, rfl, by decide, by decide⟩
    · exact ⟨_, rfl, by omega, by omega⟩
  have lr : (rng ((bs.map D.int).length : Int) (j - ((bs.map D.int).length : Int)).toNat).length ≤ 13 := by
    unfold rng
    rw [List.length_map, List.length_range]
    omega
  have lm : (bs.map D.int).length ≤ 6 := by rw [List.length_map]; exact n6
  refine ⟨_, j, rfl, rfl, ?_, sl_ok (by omega), t_5 (keepT D1 hT K2) D2 B n6 (by rw [List.length_append]; omega) (fun y hy => ?_) fun _ _ _ _ _ _ _ _ _ => nx _ _ _ _ _ _ _ _ _ _⟩
  · exact RgOk.of_le (by omega) (by omega) (by omega) (by omega)
  · rcases List.mem_append.mp hy with hy | hy
    · exact smp_ints y hy
    · unfold rng at hy
      obtain ⟨i, _, rfl⟩ := List.mem_map.mp hy
      exact smp_int
end
theorem pu_law {c PT : Addr} {C : List (Str × Addr)} (ds : List D) (μ : Mu) (Q : DQ) (QE : XQ) (h : sdLawT [(c, PT, TN)] ds μ Q QE) : db_law PT C { nx := fun _ μ' => fin Q .non μ', rt := fin Q, xe := finX QE } (startD ["script", "draw", "turn", "back_here", "wide", "spot", "bent", "value", "due", "work", "word_here", "long", "near", "ask"] ds) μ := by
  obtain ⟨ns, rfl, hn, ht, k⟩ := h
  have hT : μ PT = some (.tbl TN) := ht PT _ (by unfold tabMu; rw [List.find?_cons_of_pos (by simp)]; rfl)
  unfold db_law
  simp only [sSeq, sAsg, sRet, sRetN, sDrop, sIf, sPar, sDPutD, sNext, sBrk, sCont, sRaise, sAugI, sFor, sFreeze, dVar, dC, dOp, dTest, dAnd, dOr, dNot, dAndV, dOrV, dNotV, dIf, dChain, dTup, dLst, dLstM, dNil, dCons, dCB, dCall, dCallK, dRev, dSlice, oNone, oSome, dIsN, dNeg, dDGet, dDict, dPs, dPop, dPopAt, dAppend, dLc, dRgL, dRgT, gRg1, gRg2, iSeqD, iRng1D, iRng2D, tTrue, rdAdd, rdI, rdI0, rdB0, rdIx, rdMul, cdLen, cdAbs, cdInt, cdMin2, cdMax2, cdTup, cdList, cdListM, cdAll, cdAny, cdIsi, dName, dGTup, dGCons, dGNil, dGSub, startD, wipeD, seqOf, DL.listOf, keepOf, List.map_cons, List.map_nil, List.length_cons, List.length_nil, List.cons_append, List.nil_append, Nat.reduceAdd, Nat.reduceSub, List.replicate_succ, List.replicate_zero, List.replicate, List.set_cons_zero, List.set_cons_succ, List.getElem?_cons_zero, List.getElem?_cons_succ, Int.reduceToNat, Int.reduceNeg, Bool.false_eq_true, if_true, if_false, decide_eq_true_eq, Option.some.injEq, exists_eq_left', exists_eq_left, true_and, and_true, D.key, D.int.injEq, D.bl.injEq, D.tup.injEq, D.ref.injEq, D.lst.injEq, D.arg.injEq, dCaught, dLam, dCallV, rdIsB, rdMulT, cdIsX, dDict0]
  refine ⟨ns, rfl, hn, fun q l μ1 h1 h2 D1 L1 => ?_⟩
  refine ⟨by split <;> omega, by split <;> omega, ?_⟩
  refine ⟨fun i ρ' μ' => ∃ o2 o3 o4 o5 o6 o7 o8 o9 o10 o11 o12 o13, ρ' = [some (.arg (ns.map .int)), some (.ref q), o2, o3, o4, o5, o6, o7, o8, o9, o10, o11, o12, o13] ∧ μ' PT = some (.tbl TN) ∧ DrawAt μ' q l, ⟨_, _, _, _, _, _, _, _, _, _, _, _, rfl, L1 _ _ hT, D1⟩, fun _ _ _ _ _ => trivial, ?_, fun ρ' μ' _ => fin_self (k μ')⟩
  rintro i d ρ' μ' hd ⟨o2, o3, o4, o5, o6, o7, o8, o9, o10, o11, o12, o13, rfl, T2, D2⟩
  simp only [sSeq, sAsg, sRet, sRetN, sDrop, sIf, sPar, sDPutD, sNext, sBrk, sCont, sRaise, sAugI, sFor, sFreeze, dVar, dC, dOp, dTest, dAnd, dOr, dNot, dAndV, dOrV, dNotV, dIf, dChain, dTup, dLst, dLstM, dNil, dCons, dCB, dCall, dCallK, dRev, dSlice, oNone, oSome, dIsN, dNeg, dDGet, dDict, dPs, dPop, dPopAt, dAppend, dLc, dRgL, dRgT, gRg1, gRg2, iSeqD, iRng1D, iRng2D, tTrue, rdAdd, rdI, rdI0, rdB0, rdIx, rdMul, cdLen, cdAbs, cdInt, cdMin2, cdMax2, cdTup, cdList, cdListM, cdAll, cdAny, cdIsi, dName, dGTup, dGCons, dGNil, dGSub, startD, wipeD, seqOf, DL.listOf, keepOf, List.map_cons, List.map_nil, List.length_cons, List.length_nil, List.cons_append, List.nil_append, Nat.reduceAdd, Nat.reduceSub, List.set_cons_zero, List.set_cons_succ, List.getElem?_cons_zero, List.getElem?_cons_succ, Int.reduceToNat, Int.reduceNeg, Bool.false_eq_true, if_true, if_false, decide_eq_true_eq, Option.some.injEq, exists_eq_left', exists_eq_left, true_and, and_true, D.key, D.int.injEq, D.bl.injEq, D.tup.injEq, D.ref.injEq, D.lst.injEq, D.arg.injEq, dCaught, dLam, dCallV, rdIsB, cdIsX, dDict0]
  refine ⟨q, l, rfl, D2, fun bs μ2 B hbs D3 K3 => ?_⟩
  exact t_4 (keepT D2 T2 K3) D3 B hbs fun _ _ _ _ _ _ _ _ _ _ _ hT D => ⟨_, _, _, _, _, _, _, _, _, _, _, _, rfl, hT, D⟩
end K01

/-! Law k01: the derivations. -/
namespace K01
open PySem PySem.Spec PyProof.Rows L2 DL
section
variable {P : Program} {w : World} {K : PySem.W.Frag} {mg : Str → Option Value} {base : Heap}
theorem rd_is_number (T : Txt K mg)  {f : Addr} {cdv : Value} {A : Around} {outer : List Env} {s : Shared} {H : Hp} {E : XK} (hr : Room 0 (A.deeper (envOfC "is_number" (defScope s_is_number) s.heap.objs.size f cdv))) :
    RSs (cxOf (L2.CX P w) P w K mg base ["thing"] "is_number" (defScope s_is_number) f cdv A outer s H E) (fun cls d _ H => E cls d H) (defBody s_is_number) db_is_number :=
  (rss_one (rs_ret (re_and (re_cb call_isi ca_isi (by rfl) T.b_isinstance bx_isinstance (ra_cons (rv 0) (ra_cons (re_bltn (v := .ty "int") (by rfl) T.b_int bx_int rfl (fun _ => .ty _)) ra_nil))) (re_one (re_not (re_cb call_isi ca_isi (by rfl) T.b_isinstance bx_isinstance (ra_cons (rv 0) (ra_cons (re_bltn (v := .ty "bool") (by rfl) T.b_bool bx_bool rfl (fun _ => .ty _)) ra_nil))))))))
theorem rd_is_between (T : Txt K mg) (D_is_number : Def P w K mg base 1 "is_number" s_is_number ["thing"] sd_is_number) {f : Addr} {cdv : Value} {A : Around} {outer : List Env} {s : Shared} {H : Hp} {E : XK} (hr : Room 1 (A.deeper (envOfC "is_between" (defScope s_is_between) s.heap.objs.size f cdv))) :
    RSs (cxOf (L2.CX P w) P w K mg base ["thing", "low", "high"] "is_between" (defScope s_is_between) f cdv A outer s H E) (fun cls d _ H => E cls d H) (defBody s_is_between) db_is_between :=
  (rss_one (rs_ret (re_and (rcall D_is_number (hr.mono (by decide)) (takes_of rfl rfl rfl rfl) (ra_cons (rv 0) ra_nil)) (re_one (re_chain op_le op_le (od_B0 (f := fun i j => decide (i ≤ j))) (od_B0 (f := fun i j => decide (i ≤ j))) (rv 1) (rv 0) (rv 2))))))
theorem rd_is_back (T : Txt K mg) (D_is_between : Def P w K mg base 2 "is_between" s_is_between ["thing", "low", "high"] sd_is_between) {f : Addr} {cdv : Value} {A : Around} {outer : List Env} {s : Shared} {H : Hp} {E : XK} (hr : Room 2 (A.deeper (envOfC "is_back" (defScope s_is_back) s.heap.objs.size f cdv))) :
    RSs (cxOf (L2.CX P w) P w K mg base ["thing", "item", "k"] "is_back" (defScope s_is_back) f cdv A outer s H E) (fun cls d _ H => E cls d H) (defBody s_is_back) db_is_back :=
  (rss_cons (rs_if (RW.rt (rw_or (rt_not (rt_val (re_cb call_isi ca_isi (by rfl) T.b_isinstance bx_isinstance (ra_cons (rv 0) (ra_cons (re_bltn (v := .ty "tuple") (by rfl) T.b_tuple bx_tuple rfl (fun _ => .ty _)) ra_nil))))) (rw_or1 (rt_not (rt_chain op_le op_le (od_B0 (f := fun i j => decide (i ≤ j))) (od_B0 (f := fun i j => decide (i ≤ j))) (re_globI (by rfl) T.c_LEAST_LETTERS) (re_cb call_len ca_len (by rfl) T.b_len bx_len (ra_cons (rv 0) ra_nil)) (re_globI (by rfl) T.c_MOST_LETTERS)))))) (rss_one (rs_ret re_bl)) rss_nil)
    (rss_cons (rs_if (rt_not (rt_val (re_cb (cr_all rfl) ca_all (by rfl) T.b_all bx_all (ra_cons (re_lc false (own := [("item", 1)]) rfl sc_is_back.nd (ri_seq (rv 0)) (blkOk_by (N := ["thing", "item", "k"]) (sc := defScope s_is_back) (by decide +kernel)) (by decide) (fun _ _ _ _ _ => (rg_name (i := 1) sc_is_back.nd rfl (Or.inl rfl))) (fun _ _ _ _ _ => rts_nil) (fun _ _ _ _ _ => (rcall D_is_between (hr.mono (by decide)) takes0 (ra_cons (rv 1) (ra_cons re_int (ra_cons (re_op op_sub (od_I0 (f := fun i j => i - j)) (re_cb call_len ca_len (by rfl) T.b_len bx_len (ra_cons (rv 0) ra_nil)) re_int) ra_nil)))))) ra_nil)))) (rss_one (rs_ret re_bl)) rss_nil)
    (rss_one (rs_ret (re_cb (cr_all rfl) ca_all (by rfl) T.b_all bx_all (ra_cons (re_lc false (own := [("k", 2)]) rfl sc_is_back.nd (ri_range1 (by rfl) T.b_range (re_cb call_len ca_len (by rfl) T.b_len bx_len (ra_cons (rv 0) ra_nil))) (blkOk_by (N := ["thing", "item", "k"]) (sc := defScope s_is_back) (by decide +kernel)) (by decide) (fun _ _ _ _ _ => (rg_name (i := 2) sc_is_back.nd rfl (Or.inl rfl))) (fun _ _ _ _ _ => rts_nil) (fun _ _ _ _ _ => (re_cmp (op_eqX hr.units) od_eq (re_ix ix_seq od_ix (rv 0) (re_ix ix_seq od_ix (rv 0) (rv 2) (fun _ _ => rfl)) (fun _ _ => rfl)) (rv 2) (nomark _)))) ra_nil))))))
theorem rd_need_back (T : Txt K mg) (D_is_back : Def P w K mg base 3 "is_back" s_is_back ["thing"] sd_is_back) {f : Addr} {cdv : Value} {A : Around} {outer : List Env} {s : Shared} {H : Hp} {E : XK} (hr : Room 3 (A.deeper (envOfC "need_back" (defScope s_need_back) s.heap.objs.size f cdv))) :
    RSs (cxOf (L2.CX P w) P w K mg base ["back"] "need_back" (defScope s_need_back) f cdv A outer s H E) (fun cls d _ H => E cls d H) (defBody s_need_back) db_need_back :=
  (rss_one (rs_if (rt_not (rt_val (rcall D_is_back (hr.mono (by decide)) (takes_of rfl rfl rfl rfl) (ra_cons (rv 0) ra_nil)))) (rss_one (rs_raise T.e_BadBack rfl (takes_of rfl rfl rfl rfl))) rss_nil))
theorem rd_is_letters (T : Txt K mg) (D_is_between : Def P w K mg base 2 "is_between" s_is_between ["thing", "low", "high"] sd_is_between) {f : Addr} {cdv : Value} {A : Around} {outer : List Env} {s : Shared} {H : Hp} {E : XK} (hr : Room 2 (A.deeper (envOfC "is_letters" (defScope s_is_letters) s.heap.objs.size f cdv))) :
    RSs (cxOf (L2.CX P w) P w K mg base ["back", "thing", "item"] "is_letters" (defScope s_is_letters) f cdv A outer s H E) (fun cls d _ H => E cls d H) (defBody s_is_letters) db_is_letters :=
  (rss_one (rs_ret (re_and (re_cb call_isi ca_isi (by rfl) T.b_isinstance bx_isinstance (ra_cons (rv 1) (ra_cons (re_bltn (v := .ty "tuple") (by rfl) T.b_tuple bx_tuple rfl (fun _ => .ty _)) ra_nil))) (re_one (re_cb (cr_all rfl) ca_all (by rfl) T.b_all bx_all (ra_cons (re_lc false (own := [("item", 2)]) rfl sc_is_letters.nd (ri_seq (rv 1)) (blkOk_by (N := ["back", "thing", "item"]) (sc := defScope s_is_letters) (by decide +kernel)) (by decide) (fun _ _ _ _ _ => (rg_name (i := 2) sc_is_letters.nd rfl (Or.inl rfl))) (fun _ _ _ _ _ => rts_nil) (fun _ _ _ _ _ => (rcall D_is_between (hr.mono (by decide)) takes0 (ra_cons (rv 2) (ra_cons re_int (ra_cons (re_op op_sub (od_I0 (f := fun i j => i - j)) (re_cb call_len ca_len (by rfl) T.b_len bx_len (ra_cons (rv 0) ra_nil)) re_int) ra_nil)))))) ra_nil))))))
theorem rd_is_word (T : Txt K mg) (D_is_letters : Def P w K mg base 3 "is_letters" s_is_letters ["back", "thing"] sd_is_letters) (D_need_back : Def P w K mg base 4 "need_back" s_need_back ["back"] sd_need_back) {f : Addr} {cdv : Value} {A : Around} {outer : List Env} {s : Shared} {H : Hp} {E : XK} (hr : Room 4 (A.deeper (envOfC "is_word" (defScope s_is_word) s.heap.objs.size f cdv))) :
    RSs (cxOf (L2.CX P w) P w K mg base ["back", "thing"] "is_word" (defScope s_is_word) f cdv A outer s H E) (fun cls d _ H => E cls d H) (defBody s_is_word) db_is_word :=
  (rss_cons (rs_expr (rcall D_need_back (hr.mono (by decide)) (takes_of rfl rfl rfl rfl) (ra_cons (rv 0) ra_nil)))
    (rss_one (rs_ret (re_and (rcall D_is_letters (hr.mono (by decide)) (takes_of rfl rfl rfl rfl) (ra_cons (rv 0) (ra_cons (rv 1) ra_nil))) (re_one (re_cmp op_le (od_B0 (f := fun i j => decide (i ≤ j))) (re_cb call_len ca_len (by rfl) T.b_len bx_len (ra_cons (rv 1) ra_nil)) (re_globI (by rfl) T.c_LONGEST_WORD) (nomark _)))))))
theorem rd_need_word (T : Txt K mg) (D_is_word : Def P w K mg base 5 "is_word" s_is_word ["back", "thing"] sd_is_word) {f : Addr} {cdv : Value} {A : Around} {outer : List Env} {s : Shared} {H : Hp} {E : XK} (hr : Room 5 (A.deeper (envOfC "need_word" (defScope s_need_word) s.heap.objs.size f cdv))) :
    RSs (cxOf (L2.CX P w) P w K mg base ["back", "thing"] "need_word" (defScope s_need_word) f cdv A outer s H E) (fun cls d _ H => E cls d H) (defBody s_need_word) db_need_word :=
  (rss_one (rs_if (rt_not (rt_val (rcall D_is_word (hr.mono (by decide)) (takes_of rfl rfl rfl rfl) (ra_cons (rv 0) (ra_cons (rv 1) ra_nil))))) (rss_one (rs_raise T.e_BadWord rfl (takes_of rfl rfl rfl rfl))) rss_nil))
theorem rd_free_of (T : Txt K mg)  {f : Addr} {cdv : Value} {A : Around} {outer : List Env} {s : Shared} {H : Hp} {E : XK} (hr : Room 0 (A.deeper (envOfC "free_of" (defScope s_free_of) s.heap.objs.size f cdv))) :
    RSs (cxOf (L2.CX P w) P w K mg base ["back", "word", "found", "letter"] "free_of" (defScope s_free_of) f cdv A outer s H E) (fun cls d _ H => E cls d H) (defBody s_free_of) db_free_of :=
  (rss_cons (rs_set (i := 2) sc_free_of.nd rfl (Or.inl rfl) (re_lstM ra_nil))
    (rss_cons (rs_for (passes_of rfl) rfl (ri_seq (rv 1)) (rg_name (i := 3) sc_free_of.nd rfl (Or.inl rfl)) (rss_one (rs_if (RW.rt (rw_and (rt_cmp (op_neX hr.units) od_ne (rv 2) (re_lst ra_nil) (nomark _)) (rw_and1 (rt_cmp (op_eqX hr.units) od_eq (re_ix ix_seq od_ix (rv 2) (re_neg re_int) (fun _ _ => rfl)) (re_ix ix_seq od_ix (rv 0) (rv 3) (fun _ _ => rfl)) (nomark _))))) (rss_one (rs_expr (re_pop (rv 2)))) (rss_one (rs_expr (re_append (rv 2) (rv 3)))))))
    (rss_one (rs_ret (re_ct call_tuple_of ca_tup (by rfl) T.b_tuple bx_tuple (ra_cons (rv 2) ra_nil))))))
theorem rd_free (T : Txt K mg) (D_free_of : Def P w K mg base 1 "free_of" s_free_of ["back", "word"] sd_free_of) (D_need_word : Def P w K mg base 6 "need_word" s_need_word ["back", "thing"] sd_need_word) {f : Addr} {cdv : Value} {A : Around} {outer : List Env} {s : Shared} {H : Hp} {E : XK} (hr : Room 6 (A.deeper (envOfC "free" (defScope s_free) s.heap.objs.size f cdv))) :
    RSs (cxOf (L2.CX P w) P w K mg base ["back", "word"] "free" (defScope s_free) f cdv A outer s H E) (fun cls d _ H => E cls d H) (defBody s_free) db_free :=
  (rss_cons (rs_expr (rcall D_need_word (hr.mono (by decide)) (takes_of rfl rfl rfl rfl) (ra_cons (rv 0) (ra_cons (rv 1) ra_nil))))
    (rss_one (rs_ret (rcall D_free_of (hr.mono (by decide)) (takes_of rfl rfl rfl rfl) (ra_cons (rv 0) (ra_cons (rv 1) ra_nil))))))
theorem rd_undone_of (T : Txt K mg)  {f : Addr} {cdv : Value} {A : Around} {outer : List Env} {s : Shared} {H : Hp} {E : XK} (hr : Room 0 (A.deeper (envOfC "undone_of" (defScope s_undone_of) s.heap.objs.size f cdv))) :
    RSs (cxOf (L2.CX P w) P w K mg base ["back", "word", "letter"] "undone_of" (defScope s_undone_of) f cdv A outer s H E) (fun cls d _ H => E cls d H) (defBody s_undone_of) db_undone_of :=
  (rss_one (rs_ret (re_ct call_tuple_of ca_tup (by rfl) T.b_tuple bx_tuple (ra_cons (re_lc false (own := [("letter", 2)]) rfl sc_undone_of.nd (ri_seq (re_rev (rv 1))) (blkOk_by (N := ["back", "word", "letter"]) (sc := defScope s_undone_of) (by decide +kernel)) (by decide) (fun _ _ _ _ _ => (rg_name (i := 2) sc_undone_of.nd rfl (Or.inl rfl))) (fun _ _ _ _ _ => rts_nil) (fun _ _ _ _ _ => (re_ix ix_seq od_ix (rv 0) (rv 2) (fun _ _ => rfl)))) ra_nil))))
theorem rd_undone (T : Txt K mg) (D_need_word : Def P w K mg base 6 "need_word" s_need_word ["back", "thing"] sd_need_word) (D_undone_of : Def P w K mg base 1 "undone_of" s_undone_of ["back", "word"] sd_undone_of) {f : Addr} {cdv : Value} {A : Around} {outer : List Env} {s : Shared} {H : Hp} {E : XK} (hr : Room 6 (A.deeper (envOfC "undone" (defScope s_undone) s.heap.objs.size f cdv))) :
    RSs (cxOf (L2.CX P w) P w K mg base ["back", "word"] "undone" (defScope s_undone) f cdv A outer s H E) (fun cls d _ H => E cls d H) (defBody s_undone) db_undone :=
  (rss_cons (rs_expr (rcall D_need_word (hr.mono (by decide)) (takes_of rfl rfl rfl rfl) (ra_cons (rv 0) (ra_cons (rv 1) ra_nil))))
    (rss_one (rs_ret (rcall D_undone_of (hr.mono (by decide)) (takes_of rfl rfl rfl rfl) (ra_cons (rv 0) (ra_cons (rv 1) ra_nil))))))
theorem rd__law_begun (T : Txt K mg)  {f : Addr} {cdv : Value} {A : Around} {outer : List Env} {s : Shared} {H : Hp} {E : XK} (hr : Room 0 (A.deeper (envOfC "_law_begun" (defScope s__law_begun) s.heap.objs.size f cdv))) :
    RSs (cxOf (L2.CX P w) P w K mg base ["script", "grain", "large"] "_law_begun" (defScope s__law_begun) f cdv A outer s H E) (fun cls d _ H => E cls d H) (defBody s__law_begun) db__law_begun :=
  (rss_cons (rs_setLc true (i := 2) (own := [("grain", 1)]) rfl sc__law_begun.nd rfl rfl (sw_true rfl rfl rfl (by decide +kernel)) (ri_seq (rv 0)) (blkOk_by (N := ["script", "grain", "large"]) (sc := defScope s__law_begun) (by decide +kernel)) (by decide) (fun _ _ _ _ _ => (rg_name (i := 1) sc__law_begun.nd rfl (Or.inl rfl))) (fun _ _ _ _ _ => (rts_one (rt_cmp op_ge (od_B0 (f := fun i j => decide (j ≤ i))) (re_cb call_abs ca_abs (by rfl) T.b_abs bx_abs (ra_cons (rv 1) ra_nil)) (re_op op_pow (od_I (C := CPow) (f := fun i j => i ^ j.toNat)) re_int re_int) (nomark _)))) (fun _ _ _ _ _ => (re_op op_sub (od_I0 (f := fun i j => i - j)) (re_cb call_abs ca_abs (by rfl) T.b_abs bx_abs (ra_cons (rv 1) ra_nil)) (re_op op_pow (od_I (C := CPow) (f := fun i j => i ^ j.toNat)) re_int re_int))))
    (rss_one (rs_ret (re_dict (rps_str (rv 2) (rps_str re_int (rps_str (re_lc false (own := [("grain", 1)]) rfl sc__law_begun.nd (ri_seq (rv 0)) (blkOk_by (N := ["script", "grain", "large"]) (sc := defScope s__law_begun) (by decide +kernel)) (by decide) (fun _ _ _ _ _ => (rg_name (i := 1) sc__law_begun.nd rfl (Or.inl rfl))) (fun _ _ _ _ _ => rts_nil) (fun _ _ _ _ _ => (re_cb call_abs ca_abs (by rfl) T.b_abs bx_abs (ra_cons (rv 1) ra_nil)))) (rps_str re_int rps_nil)))) rfl rfl (by intro h; cases h) (by decide) (by decide) (by decide +kernel)))))
theorem rd__law_mixed (T : Txt K mg)  {f : Addr} {cdv : Value} {A : Around} {outer : List Env} {s : Shared} {H : Hp} {E : XK} (hr : Room 0 (A.deeper (envOfC "_law_mixed" (defScope s__law_mixed) s.heap.objs.size f cdv))) :
    RSs (cxOf (L2.CX P w) P w K mg base ["draw", "turn", "found", "great", "blend", "grain"] "_law_mixed" (defScope s__law_mixed) f cdv A outer s H E) (fun cls d _ H => E cls d H) (defBody s__law_mixed) db__law_mixed :=
  (rss_cons (rs_dput hr (rv 0) re_str (re_op op_addAll od_add (re_dget hr (rv 0) re_str (fun _ _ => rfl)) re_int))
    (rss_cons (rs_par (i := 1) (j := 2) rfl sc__law_mixed.nd rfl rfl (by decide) rfl rfl (ra_cons (re_ct call_int1 ca_int (by rfl) T.b_int bx_int (ra_cons (re_dget hr (rv 0) re_str (fun _ _ => rfl)) ra_nil)) (ra_cons re_int ra_nil)))
    (rss_cons (rs_for (passes_of rfl) rfl (ri_seq (re_lst (ra_cons re_int (ra_cons re_int (ra_cons re_int ra_nil))))) (rg_name (i := 3) sc__law_mixed.nd rfl (Or.inl rfl)) (rss_cons (rs_set (i := 4) sc__law_mixed.nd rfl (Or.inl rfl) (re_op op_mod (od_I (C := fun _ j => 0 < j) (f := fun i j => i % j)) (re_op op_addAll od_add (re_op op_mulAll (od_mul (z := false)) (rv 1) re_int) (re_op op_fdivW (od_I (C := CDivW) (f := fun i j => i / j)) (rv 3) re_int)) (rv 3)))
    (rss_cons (rs_for (passes_of rfl) rfl (ri_seq (re_dget hr (rv 0) re_str (fun _ _ => rfl))) (rg_name (i := 5) sc__law_mixed.nd rfl (Or.inl rfl)) (rss_one (rs_set (i := 4) sc__law_mixed.nd rfl (Or.inl rfl) (re_op op_mod (od_I (C := fun _ j => 0 < j) (f := fun i j => i % j)) (re_op op_addAll od_add (re_op op_mulAll (od_mul (z := false)) (rv 4) re_int) (re_ct call_int1 ca_int (by rfl) T.b_int bx_int (ra_cons (rv 5) ra_nil))) (rv 3)))))
    (rss_one (rs_set (i := 2) sc__law_mixed.nd rfl (Or.inl rfl) (re_op op_addAll od_add (re_op op_mulAll (od_mul (z := false)) (rv 2) re_int) (re_op op_mod (od_I (C := fun _ j => 0 < j) (f := fun i j => i % j)) (re_op op_pow (od_I (C := CPow) (f := fun i j => i ^ j.toNat)) (rv 4) re_int) (rv 3))))))))
    (rss_one (rs_ret (rv 2))))))
theorem rd__law_take (T : Txt K mg) (D__law_mixed : Def P w K mg base 1 "_law_mixed" s__law_mixed ["draw"] sd__law_mixed) {f : Addr} {cdv : Value} {A : Around} {outer : List Env} {s : Shared} {H : Hp} {E : XK} (hr : Room 1 (A.deeper (envOfC "_law_take" (defScope s__law_take) s.heap.objs.size f cdv))) :
    RSs (cxOf (L2.CX P w) P w K mg base ["draw", "amount", "found"] "_law_take" (defScope s__law_take) f cdv A outer s H E) (fun cls d _ H => E cls d H) (defBody s__law_take) db__law_take :=
  (rss_cons (rs_if (rt_cmp (op_eqX hr.units) od_eq (re_dget hr (rv 0) re_str (fun _ _ => rfl)) re_int (nomark _)) (rss_one (rs_dput hr (rv 0) re_str (re_if (rt_cmp (op_neX hr.units) od_ne (re_dget hr (rv 0) re_str (fun _ _ => rfl)) (re_lst ra_nil) (nomark _)) (re_popAt (re_dget hr (rv 0) re_str (fun _ _ => rfl)) re_int) (rcall D__law_mixed (hr.mono (by decide)) (takes_of rfl rfl rfl rfl) (ra_cons (rv 0) ra_nil))))) rss_nil)
    (rss_cons (rs_set (i := 2) sc__law_take.nd rfl (Or.inl rfl) (re_op op_mod (od_I (C := fun _ j => 0 < j) (f := fun i j => i % j)) (re_ct call_int1 ca_int (by rfl) T.b_int bx_int (ra_cons (re_dget hr (rv 0) re_str (fun _ _ => rfl)) ra_nil)) (rv 1)))
    (rss_cons (rs_dput hr (rv 0) re_str (re_op op_fdivW (od_I (C := CDivW) (f := fun i j => i / j)) (re_ct call_int1 ca_int (by rfl) T.b_int bx_int (ra_cons (re_dget hr (rv 0) re_str (fun _ _ => rfl)) ra_nil)) (rv 1)))
    (rss_one (rs_ret (rv 2))))))
theorem rd__law_pick (T : Txt K mg) (D__law_take : Def P w K mg base 2 "_law_take" s__law_take ["draw", "amount"] sd__law_take) {f : Addr} {cdv : Value} {A : Around} {outer : List Env} {s : Shared} {H : Hp} {E : XK} (hr : Room 2 (A.deeper (envOfC "_law_pick" (defScope s__law_pick) s.heap.objs.size f cdv))) :
    RSs (cxOf (L2.CX P w) P w K mg base ["draw", "some"] "_law_pick" (defScope s__law_pick) f cdv A outer s H E) (fun cls d _ H => E cls d H) (defBody s__law_pick) db__law_pick :=
  (rss_one (rs_ret (re_ix ix_seq od_ix (rv 1) (rcall D__law_take (hr.mono (by decide)) (takes_of rfl rfl rfl rfl) (ra_cons (rv 0) (ra_cons (re_cb call_len ca_len (by rfl) T.b_len bx_len (ra_cons (rv 1) ra_nil)) ra_nil))) (fun _ _ => rfl))))
theorem rd__law_shuffled (T : Txt K mg) (D__law_take : Def P w K mg base 2 "_law_take" s__law_take ["draw", "amount"] sd__law_take) {f : Addr} {cdv : Value} {A : Around} {outer : List Env} {s : Shared} {H : Hp} {E : XK} (hr : Room 2 (A.deeper (envOfC "_law_shuffled" (defScope s__law_shuffled) s.heap.objs.size f cdv))) :
    RSs (cxOf (L2.CX P w) P w K mg base ["draw", "some", "left", "found"] "_law_shuffled" (defScope s__law_shuffled) f cdv A outer s H E) (fun cls d _ H => E cls d H) (defBody s__law_shuffled) db__law_shuffled :=
  (rss_cons (rs_par (i := 2) (j := 3) rfl sc__law_shuffled.nd rfl rfl (by decide) rfl rfl (ra_cons (re_ct call_list_of ca_listM (by rfl) T.b_list bx_list (ra_cons (rv 1) ra_nil)) (ra_cons (re_lstM ra_nil) ra_nil)))
    (rss_cons (rs_while (passes_of rfl) (rt_cmp (op_neX hr.units) od_ne (rv 2) (re_lst ra_nil) (nomark _)) (rss_one (rs_expr (re_append (rv 3) (re_popAt (rv 2) (rcall D__law_take (hr.mono (by decide)) (takes_of rfl rfl rfl rfl) (ra_cons (rv 0) (ra_cons (re_cb call_len ca_len (by rfl) T.b_len bx_len (ra_cons (rv 2) ra_nil)) ra_nil))))))))
    (rss_one (rs_ret (rv 3)))))
theorem rd__law_is_truth (T : Txt K mg)  {f : Addr} {cdv : Value} {A : Around} {outer : List Env} {s : Shared} {H : Hp} {E : XK} (hr : Room 0 (A.deeper (envOfC "_law_is_truth" (defScope s__law_is_truth) s.heap.objs.size f cdv))) :
    RSs (cxOf (L2.CX P w) P w K mg base ["found", "due"] "_law_is_truth" (defScope s__law_is_truth) f cdv A outer s H E) (fun cls d _ H => E cls d H) (defBody s__law_is_truth) db__law_is_truth :=
  (rss_one (rs_ret (re_if (rt_val (rv 1)) (re_cmp op_isBl od_isB (rv 0) re_bl (nomark _)) (re_cmp op_isBl od_isB (rv 0) re_bl (nomark _)))))
theorem rd__law_back (T : Txt K mg) (D__law_shuffled : Def P w K mg base 3 "_law_shuffled" s__law_shuffled ["draw", "some"] sd__law_shuffled) (D__law_take : Def P w K mg base 2 "_law_take" s__law_take ["draw", "amount"] sd__law_take) {f : Addr} {cdv : Value} {A : Around} {outer : List Env} {s : Shared} {H : Hp} {E : XK} (hr : Room 3 (A.deeper (envOfC "_law_back" (defScope s__law_back) s.heap.objs.size f cdv))) :
    RSs (cxOf (L2.CX P w) P w K mg base ["draw", "line", "many", "left_here", "found", "one", "other"] "_law_back" (defScope s__law_back) f cdv A outer s H E) (fun cls d _ H => E cls d H) (defBody s__law_back) db__law_back :=
  (rss_cons (rs_par (i := 1) (j := 2) rfl sc__law_back.nd rfl rfl (by decide) rfl rfl (ra_cons (re_lstM ra_nil) (ra_cons (re_op op_addAll od_add re_int (rcall D__law_take (hr.mono (by decide)) (takes_of rfl rfl rfl rfl) (ra_cons (rv 0) (ra_cons re_int ra_nil)))) ra_nil)))
    (rss_cons (rs_set (i := 3) sc__law_back.nd rfl (Or.inl rfl) (rcall D__law_shuffled (hr.mono (by decide)) (takes_of rfl rfl rfl rfl) (ra_cons (rv 0) (ra_cons (re_listRg false rfl (by rfl) T.b_list (rrg_1 (by rfl) T.b_range (rv 2))) ra_nil))))
    (rss_cons (rs_set (i := 4) sc__law_back.nd rfl (Or.inl rfl) (re_op op_mulAll (od_mul (z := true)) (re_lstM (ra_cons re_int ra_nil)) (rv 2)))
    (rss_cons (rs_while (passes_of rfl) (rt_cmp (op_neX hr.units) od_ne (rv 3) (re_lst ra_nil) (nomark _)) (rss_cons (rs_set (i := 5) sc__law_back.nd rfl (Or.inl rfl) (re_pop (rv 3)))
    (rss_cons (rs_set (i := 6) sc__law_back.nd rfl (Or.inl rfl) (re_if (RW.rt (rw_and (rt_cmp (op_neX hr.units) od_ne (rv 3) (re_lst ra_nil) (nomark _)) (rw_and1 (rt_cmp op_gt (od_B0 (f := fun i j => decide (j < i))) (rcall D__law_take (hr.mono (by decide)) (takes_of rfl rfl rfl rfl) (ra_cons (rv 0) (ra_cons re_int ra_nil))) re_int (nomark _))))) (re_pop (rv 3)) (rv 5)))
    (rss_one (rs_asg (re_tup (ra_cons (rv 6) (ra_cons (rv 5) ra_nil))) (rg_tup rfl (rgs_cons (rg_sub (rv 4) (rv 5)) (rgs_cons (rg_sub (rv 4) (rv 6)) rgs_nil))))))))
    (rss_one (rs_ret (re_ct call_tuple_of ca_tup (by rfl) T.b_tuple bx_tuple (ra_cons (rv 4) ra_nil))))))))
theorem rd__law_word (T : Txt K mg) (D__law_take : Def P w K mg base 2 "_law_take" s__law_take ["draw", "amount"] sd__law_take) {f : Addr} {cdv : Value} {A : Around} {outer : List Env} {s : Shared} {H : Hp} {E : XK} (hr : Room 2 (A.deeper (envOfC "_law_word" (defScope s__law_word) s.heap.objs.size f cdv))) :
    RSs (cxOf (L2.CX P w) P w K mg base ["draw", "back_here", "most", "k"] "_law_word" (defScope s__law_word) f cdv A outer s H E) (fun cls d _ H => E cls d H) (defBody s__law_word) db__law_word :=
  (rss_one (rs_ret (re_ct call_tuple_of ca_tup (by rfl) T.b_tuple bx_tuple (ra_cons (re_lc false (own := [("k", 3)]) rfl sc__law_word.nd (ri_range1 (by rfl) T.b_range (rcall D__law_take (hr.mono (by decide)) (takes_of rfl rfl rfl rfl) (ra_cons (rv 0) (ra_cons (re_op op_addAll od_add (rv 2) re_int) ra_nil)))) (blkOk_by (N := ["draw", "back_here", "most", "k"]) (sc := defScope s__law_word) (by decide +kernel)) (by decide) (fun _ _ _ _ _ => (rg_name (i := 3) sc__law_word.nd rfl (Or.inl rfl))) (fun _ _ _ _ _ => rts_nil) (fun _ _ _ _ _ => (rcall D__law_take (hr.mono (by decide)) takes0 (ra_cons (rv 0) (ra_cons (re_cb call_len ca_len (by rfl) T.b_len bx_len (ra_cons (rv 1) ra_nil)) ra_nil))))) ra_nil))))
theorem rd__law_is_back (T : Txt K mg)  {f : Addr} {cdv : Value} {A : Around} {outer : List Env} {s : Shared} {H : Hp} {E : XK} (hr : Room 0 (A.deeper (envOfC "_law_is_back" (defScope s__law_is_back) s.heap.objs.size f cdv))) :
    RSs (cxOf (L2.CX P w) P w K mg base ["thing", "item", "k"] "_law_is_back" (defScope s__law_is_back) f cdv A outer s H E) (fun cls d _ H => E cls d H) (defBody s__law_is_back) db__law_is_back :=
  (rss_cons (rs_if (RW.rt (rw_or (rt_not (rt_val (re_cb call_isi ca_isi (by rfl) T.b_isinstance bx_isinstance (ra_cons (rv 0) (ra_cons (re_bltn (v := .ty "tuple") (by rfl) T.b_tuple bx_tuple rfl (fun _ => .ty _)) ra_nil))))) (rw_or1 (rt_not (rt_chain op_le op_le (od_B0 (f := fun i j => decide (i ≤ j))) (od_B0 (f := fun i j => decide (i ≤ j))) re_int (re_cb call_len ca_len (by rfl) T.b_len bx_len (ra_cons (rv 0) ra_nil)) re_int))))) (rss_one (rs_ret re_bl)) rss_nil)
    (rss_cons (rs_if (rt_cmp (op_neX hr.units) od_ne (re_lc false (own := [("item", 1)]) rfl sc__law_is_back.nd (ri_seq (rv 0)) (blkOk_by (N := ["thing", "item", "k"]) (sc := defScope s__law_is_back) (by decide +kernel)) (by decide) (fun _ _ _ _ _ => (rg_name (i := 1) sc__law_is_back.nd rfl (Or.inl rfl))) (fun _ _ _ _ _ => (rts_one (RW.rt (rw_or (rt_val (re_cb call_isi ca_isi (by rfl) T.b_isinstance bx_isinstance (ra_cons (rv 1) (ra_cons (re_bltn (v := .ty "bool") (by rfl) T.b_bool bx_bool rfl (fun _ => .ty _)) ra_nil)))) (rw_or (rt_not (rt_val (re_cb call_isi ca_isi (by rfl) T.b_isinstance bx_isinstance (ra_cons (rv 1) (ra_cons (re_bltn (v := .ty "int") (by rfl) T.b_int bx_int rfl (fun _ => .ty _)) ra_nil))))) (rw_or1 (rt_not (rt_chain op_le op_lt (od_B0 (f := fun i j => decide (i ≤ j))) (od_B0 (f := fun i j => decide (i < j))) re_int (rv 1) (re_cb call_len ca_len (by rfl) T.b_len bx_len (ra_cons (rv 0) ra_nil)))))))))) (fun _ _ _ _ _ => (rv 1))) (re_lst ra_nil) (nomark _)) (rss_one (rs_ret re_bl)) rss_nil)
    (rss_one (rs_ret (re_cmp (op_eqX hr.units) od_eq (re_lc false (own := [("k", 2)]) rfl sc__law_is_back.nd (ri_range1 (by rfl) T.b_range (re_cb call_len ca_len (by rfl) T.b_len bx_len (ra_cons (rv 0) ra_nil))) (blkOk_by (N := ["thing", "item", "k"]) (sc := defScope s__law_is_back) (by decide +kernel)) (by decide) (fun _ _ _ _ _ => (rg_name (i := 2) sc__law_is_back.nd rfl (Or.inl rfl))) (fun _ _ _ _ _ => (rts_one (rt_cmp (op_neX hr.units) od_ne (re_ix ix_seq od_ix (rv 0) (re_ix ix_seq od_ix (rv 0) (rv 2) (fun _ _ => rfl)) (fun _ _ => rfl)) (rv 2) (nomark _)))) (fun _ _ _ _ _ => (rv 2))) (re_lst ra_nil) (nomark _))))))
theorem rd__law_is_word (T : Txt K mg)  {f : Addr} {cdv : Value} {A : Around} {outer : List Env} {s : Shared} {H : Hp} {E : XK} (hr : Room 0 (A.deeper (envOfC "_law_is_word" (defScope s__law_is_word) s.heap.objs.size f cdv))) :
    RSs (cxOf (L2.CX P w) P w K mg base ["back_here", "thing", "item"] "_law_is_word" (defScope s__law_is_word) f cdv A outer s H E) (fun cls d _ H => E cls d H) (defBody s__law_is_word) db__law_is_word :=
  (rss_cons (rs_if (RW.rt (rw_or (rt_not (rt_val (re_cb call_isi ca_isi (by rfl) T.b_isinstance bx_isinstance (ra_cons (rv 1) (ra_cons (re_bltn (v := .ty "tuple") (by rfl) T.b_tuple bx_tuple rfl (fun _ => .ty _)) ra_nil))))) (rw_or1 (rt_cmp op_gt (od_B0 (f := fun i j => decide (j < i))) (re_cb call_len ca_len (by rfl) T.b_len bx_len (ra_cons (rv 1) ra_nil)) re_int (nomark _))))) (rss_one (rs_ret re_bl)) rss_nil)
    (rss_one (rs_ret (re_cmp (op_eqX hr.units) od_eq (re_lc false (own := [("item", 2)]) rfl sc__law_is_word.nd (ri_seq (rv 1)) (blkOk_by (N := ["back_here", "thing", "item"]) (sc := defScope s__law_is_word) (by decide +kernel)) (by decide) (fun _ _ _ _ _ => (rg_name (i := 2) sc__law_is_word.nd rfl (Or.inl rfl))) (fun _ _ _ _ _ => (rts_one (RW.rt (rw_or (rt_val (re_cb call_isi ca_isi (by rfl) T.b_isinstance bx_isinstance (ra_cons (rv 2) (ra_cons (re_bltn (v := .ty "bool") (by rfl) T.b_bool bx_bool rfl (fun _ => .ty _)) ra_nil)))) (rw_or (rt_not (rt_val (re_cb call_isi ca_isi (by rfl) T.b_isinstance bx_isinstance (ra_cons (rv 2) (ra_cons (re_bltn (v := .ty "int") (by rfl) T.b_int bx_int rfl (fun _ => .ty _)) ra_nil))))) (rw_or1 (rt_not (rt_chain op_le op_lt (od_B0 (f := fun i j => decide (i ≤ j))) (od_B0 (f := fun i j => decide (i < j))) re_int (rv 2) (re_cb call_len ca_len (by rfl) T.b_len bx_len (ra_cons (rv 0) ra_nil)))))))))) (fun _ _ _ _ _ => (rv 2))) (re_lst ra_nil) (nomark _)))))
theorem tb_law (T : Txt K mg) (D__law_back : Def P w K mg base 4 "_law_back" s__law_back ["draw"] sd__law_back) (D__law_begun : Def P w K mg base 1 "_law_begun" s__law_begun ["script"] sd__law_begun) (D__law_is_back : Def P w K mg base 1 "_law_is_back" s__law_is_back ["thing"] sd__law_is_back) (D__law_is_truth : Def P w K mg base 1 "_law_is_truth" s__law_is_truth ["found", "due"] sd__law_is_truth) (D__law_is_word : Def P w K mg base 1 "_law_is_word" s__law_is_word ["back_here", "thing"] sd__law_is_word) (D__law_pick : Def P w K mg base 3 "_law_pick" s__law_pick ["draw", "some"] sd__law_pick) (D__law_take : Def P w K mg base 2 "_law_take" s__law_take ["draw", "amount"] sd__law_take) (D__law_word : Def P w K mg base 3 "_law_word" s__law_word ["draw", "back_here", "most"] sd__law_word) (D_free : Def P w K mg base 7 "free" s_free ["back", "word"] sd_free) (D_is_back : Def P w K mg base 3 "is_back" s_is_back ["thing"] sd_is_back) (D_is_word : Def P w K mg base 5 "is_word" s_is_word ["back", "thing"] sd_is_word) (D_undone : Def P w K mg base 7 "undone" s_undone ["back", "word"] sd_undone) {f : Addr} {cdv : Value} {A : Around} {outer : List Env} {s : Shared} {H : Hp} {E : XK} : ∀ e de, (e, de) ∈ lt_law → LamOk (cxOf (L2.CX P w) P w K mg base ["script", "draw", "turn", "back_here", "wide", "spot", "bent", "value", "due", "work", "word_here", "long", "near", "ask"] "law" (defScope s_law) f cdv A outer s H E) 7 e de :=
  (lam_cons (lam_mk (e := lam_law_0) rfl (LamX.lamS_by (sc := defScope s_law) (by decide +kernel)) (fun _ _ _ _ _ => rfl) (fun A outer s H E f c' _ hr =>
    (rcall D_is_word (hr.mono (by decide)) (takes_of rfl rfl rfl rfl) (ra_cons (rv 7) (ra_cons re_non ra_nil)))))
   (lam_cons (lam_mk (e := lam_law_1) rfl (LamX.lamS_by (sc := defScope s_law) (by decide +kernel)) (fun _ _ _ _ _ => rfl) (fun A outer s H E f c' _ hr =>
    (rcall D_free (hr.mono (by decide)) (takes_of rfl rfl rfl rfl) (ra_cons (rv 7) (ra_cons re_non ra_nil)))))
   (lam_cons (lam_mk (e := lam_law_2) rfl (LamX.lamS_by (sc := defScope s_law) (by decide +kernel)) (fun _ _ _ _ _ => rfl) (fun A outer s H E f c' _ hr =>
    (rcall D_undone (hr.mono (by decide)) (takes_of rfl rfl rfl rfl) (ra_cons (rv 7) (ra_cons re_non ra_nil)))))
   (lam_cons (lam_mk (e := lam_law_3) rfl (LamX.lamS_by (sc := defScope s_law) (by decide +kernel)) (fun _ _ _ _ _ => rfl) (fun A outer s H E f c' _ hr =>
    (re_callV (held_cons D_free T.n_free (held_cons D_undone T.n_undone held_nil)) (hr.mono (by decide)) (takes_of rfl rfl rfl rfl) (rv 13) (ra_cons (rv 3) (ra_cons (rv 7) ra_nil)))))
   (lam_cons (lam_mk (e := lam_law_4) rfl (LamX.lamS_by (sc := defScope s_law) (by decide +kernel)) (fun _ _ _ _ _ => rfl) (fun A outer s H E f c' _ hr =>
    (rcall D_free (hr.mono (by decide)) (takes_of rfl rfl rfl rfl) (ra_cons (rv 3) (ra_cons (rv 7) ra_nil)))))
   (lam_cons (lam_mk (e := lam_law_5) rfl (LamX.lamS_by (sc := defScope s_law) (by decide +kernel)) (fun _ _ _ _ _ => rfl) (fun A outer s H E f c' _ hr =>
    (rcall D_undone (hr.mono (by decide)) (takes_of rfl rfl rfl rfl) (ra_cons (rv 3) (ra_cons (rv 7) ra_nil)))))
   lam_nil))))))
theorem rd_law (T : Txt K mg) (D__law_back : Def P w K mg base 4 "_law_back" s__law_back ["draw"] sd__law_back) (D__law_begun : Def P w K mg base 1 "_law_begun" s__law_begun ["script"] sd__law_begun) (D__law_is_back : Def P w K mg base 1 "_law_is_back" s__law_is_back ["thing"] sd__law_is_back) (D__law_is_truth : Def P w K mg base 1 "_law_is_truth" s__law_is_truth ["found", "due"] sd__law_is_truth) (D__law_is_word : Def P w K mg base 1 "_law_is_word" s__law_is_word ["back_here", "thing"] sd__law_is_word) (D__law_pick : Def P w K mg base 3 "_law_pick" s__law_pick ["draw", "some"] sd__law_pick) (D__law_take : Def P w K mg base 2 "_law_take" s__law_take ["draw", "amount"] sd__law_take) (D__law_word : Def P w K mg base 3 "_law_word" s__law_word ["draw", "back_here", "most"] sd__law_word) (D_free : Def P w K mg base 7 "free" s_free ["back", "word"] sd_free) (D_is_back : Def P w K mg base 3 "is_back" s_is_back ["thing"] sd_is_back) (D_is_word : Def P w K mg base 5 "is_word" s_is_word ["back", "thing"] sd_is_word) (D_undone : Def P w K mg base 7 "undone" s_undone ["back", "word"] sd_undone) {c PT : Addr} (TB : LamX.TabB base mg c PT) {f : Addr} {A : Around} {outer : List Env} {s : Shared} {H : Hp} {E : XK} (hr : Room 9 (A.deeper (envOfC "law" (defScope s_law) s.heap.objs.size f (.ref c)))) :
    RSs (cxOf (L2.CX P w) P w K mg base ["script", "draw", "turn", "back_here", "wide", "spot", "bent", "value", "due", "work", "word_here", "long", "near", "ask"] "law" (defScope s_law) f (.ref c) A outer s H E) (fun cls d _ H => E cls d H) (defBody s_law) (db_law PT (cellsFrom (s.heap.objs.size + 1) (defScope s_law).names [])) :=
  (rss_cons (rs_set (i := 1) sc_law.nd rfl (Or.inl rfl) (rcall D__law_begun (hr.mono (by decide)) (takes_of rfl rfl rfl rfl) (ra_cons (rv 0) ra_nil)))
    (rss_cons (rs_for (passes_of rfl) rfl (ri_range1 (by rfl) T.b_range (re_op op_addAll od_add re_int (re_cb (call_min2 rfl) ca_min2 (by rfl) T.b_min bx_min (ra_cons (re_cb call_len ca_len (by rfl) T.b_len bx_len (ra_cons (rv 0) ra_nil)) (ra_cons re_int ra_nil))))) (rg_name (i := 2) sc_law.nd rfl (Or.inl rfl)) (rss_cons (rs_set (i := 3) sc_law.nd rfl (Or.inr rfl) (rcall D__law_back (hr.mono (by decide)) (takes_of rfl rfl rfl rfl) (ra_cons (rv 1) ra_nil)))
    (rss_cons (rs_set (i := 4) sc_law.nd rfl (Or.inl rfl) (re_op op_addAll od_add (rv 3) (re_tupRg rfl (by rfl) T.b_tuple (rrg_2 (by rfl) T.b_range (re_cb call_len ca_len (by rfl) T.b_len bx_len (ra_cons (rv 3) ra_nil)) (rcall D__law_pick (hr.mono (by decide)) (takes_of rfl rfl rfl rfl) (ra_cons (rv 1) (ra_cons (re_lst (ra_cons re_int (ra_cons re_int (ra_cons (re_op op_addAll od_add (re_cb call_len ca_len (by rfl) T.b_len bx_len (ra_cons (rv 3) ra_nil)) re_int) ra_nil)))) ra_nil)))))))
    (rss_cons (rs_set (i := 5) sc_law.nd rfl (Or.inl rfl) (rcall D__law_take (hr.mono (by decide)) (takes_of rfl rfl rfl rfl) (ra_cons (rv 1) (ra_cons (re_cb call_len ca_len (by rfl) T.b_len bx_len (ra_cons (rv 3) ra_nil)) ra_nil))))
    (rss_cons (rs_set (i := 6) sc_law.nd rfl (Or.inl rfl) (re_op op_addAll od_add (re_op op_addAll od_add (re_slice (rv 3) ro_none (ro_some (rv 5))) (re_tup (ra_cons (rcall D__law_pick (hr.mono (by decide)) (takes_of rfl rfl rfl rfl) (ra_cons (rv 1) (ra_cons (re_lst (ra_cons (rcall D__law_take (hr.mono (by decide)) (takes_of rfl rfl rfl rfl) (ra_cons (rv 1) (ra_cons re_int ra_nil))) (ra_cons (re_neg re_int) (ra_cons re_bl (ra_cons re_non (ra_cons re_str (ra_cons (re_tup (ra_cons re_int ra_nil)) ra_nil))))))) ra_nil))) ra_nil))) (re_slice (rv 3) (ro_some (re_op op_addAll od_add (rv 5) re_int)) ro_none)))
    (rss_cons (rs_for (passes_of rfl) rfl (ri_seq (re_lst (ra_cons (rv 3) (ra_cons (rv 4) (ra_cons (rv 6) (ra_cons (re_ct call_list_of ca_list (by rfl) T.b_list bx_list (ra_cons (rv 3) ra_nil)) (ra_cons (re_slice (rv 3) ro_none (ro_some re_int)) (ra_cons (re_tup ra_nil) (ra_cons re_non (ra_cons re_int (ra_cons re_str (ra_cons (re_tup (ra_cons re_int ra_nil)) (ra_cons (re_tup (ra_cons re_int (ra_cons re_int (ra_cons re_int ra_nil)))) (ra_cons (re_tup (ra_cons re_int (ra_cons re_int (ra_cons re_int ra_nil)))) (ra_cons (re_op op_mulT od_mulT (re_tup (ra_cons re_int ra_nil)) re_int) ra_nil))))))))))))))) (rg_name (i := 7) sc_law.nd rfl (Or.inr rfl)) (rss_cons (rs_set (i := 8) sc_law.nd rfl (Or.inl rfl) (rcall D__law_is_back (hr.mono (by decide)) (takes_of rfl rfl rfl rfl) (ra_cons (rv 7) ra_nil)))
    (rss_cons (rs_if (RW.rt (rw_or (rt_not (rt_val (rcall D__law_is_truth (hr.mono (by decide)) (takes_of rfl rfl rfl rfl) (ra_cons (rcall D_is_back (hr.mono (by decide)) (takes_of rfl rfl rfl rfl) (ra_cons (rv 7) ra_nil)) (ra_cons (rv 8) ra_nil))))) (rw_or1 (rt_not (rt_val (rcall D__law_is_truth (hr.mono (by decide)) (takes_of rfl rfl rfl rfl) (ra_cons (rcallK (ks := ["thing"]) (π := [0]) D_is_back (hr.mono (by decide)) (takes_of rfl rfl rfl rfl) (fun _ _ _ _ _ _ ws us hl e => match ws, hl with | [_], _ => by cases e; rfl) rfl (rk_cons (rv 7) rk_nil)) (ra_cons (rv 8) ra_nil)))))))) (rss_one (rs_ret re_bl)) rss_nil)
    (rss_cons (rs_if (rt_val (rv 8)) (rss_one rs_continue) rss_nil)
    (rss_cons (rs_for (passes_of rfl) rfl (ri_seq (re_lst (ra_cons (re_lam TB rfl (LamX.lamS_by (sc := defScope s_law) (by decide +kernel))) (ra_cons (re_lam TB rfl (LamX.lamS_by (sc := defScope s_law) (by decide +kernel))) ra_nil)))) (rg_name (i := 9) sc_law.nd rfl (Or.inl rfl)) (rss_one (rs_if (rt_not (rt_val (re_cb call_isX (ca_isX T.x_isx) (by rfl) T.b_isinstance bx_isinstance (ra_cons (re_caught T.g__law_caught (hr.mono (by decide)) (by rfl) (rv 9) (tb_law T D__law_back D__law_begun D__law_is_back D__law_is_truth D__law_is_word D__law_pick D__law_take D__law_word D_free D_is_back D_is_word D_undone) (fun _ => rfl)) (ra_cons (re_nm T.n_BadBack) ra_nil))))) (rss_one (rs_ret re_bl)) rss_nil)))
    (rss_one (rs_if (rt_not (rt_val (re_cb call_isX (ca_isX T.x_isx) (by rfl) T.b_isinstance bx_isinstance (ra_cons (re_caught T.g__law_caught (hr.mono (by decide)) (by rfl) (re_lam TB rfl (LamX.lamS_by (sc := defScope s_law) (by decide +kernel))) (tb_law T D__law_back D__law_begun D__law_is_back D__law_is_truth D__law_is_word D__law_pick D__law_take D__law_word D_free D_is_back D_is_word D_undone) (fun _ => rfl)) (ra_cons (re_nm T.n_BadBack) ra_nil))))) (rss_one (rs_ret re_bl)) rss_nil)))))))
    (rss_cons (rs_set (i := 10) sc_law.nd rfl (Or.inl rfl) (rcall D__law_word (hr.mono (by decide)) (takes_of rfl rfl rfl rfl) (ra_cons (rv 1) (ra_cons (rv 3) (ra_cons re_int ra_nil)))))
    (rss_cons (rs_set (i := 11) sc_law.nd rfl (Or.inl rfl) (re_op op_mulT od_mulT (re_tup (ra_cons re_int (ra_cons re_int ra_nil))) re_int))
    (rss_cons (rs_set (i := 12) sc_law.nd rfl (Or.inl rfl) (re_op op_addAll od_add (rv 10) (re_tup (ra_cons (rcall D__law_pick (hr.mono (by decide)) (takes_of rfl rfl rfl rfl) (ra_cons (rv 1) (ra_cons (re_lst (ra_cons (re_cb call_len ca_len (by rfl) T.b_len bx_len (ra_cons (rv 3) ra_nil)) (ra_cons (re_neg re_int) (ra_cons re_bl (ra_cons re_non (ra_cons re_str (ra_cons (re_tup (ra_cons re_int ra_nil)) ra_nil))))))) ra_nil))) ra_nil))))
    (rss_one (rs_for (passes_of rfl) rfl (ri_seq (re_lst (ra_cons (rv 10) (ra_cons (rv 12) (ra_cons (re_ct call_list_of ca_list (by rfl) T.b_list bx_list (ra_cons (rv 10) ra_nil)) (ra_cons (rv 11) (ra_cons (re_op op_addAll od_add (rv 11) (re_tup (ra_cons re_int ra_nil))) (ra_cons re_non (ra_cons re_int (ra_cons re_str (ra_cons re_dict0 ra_nil))))))))))) (rg_name (i := 7) sc_law.nd rfl (Or.inr rfl)) (rss_cons (rs_set (i := 8) sc_law.nd rfl (Or.inl rfl) (rcall D__law_is_word (hr.mono (by decide)) (takes_of rfl rfl rfl rfl) (ra_cons (rv 3) (ra_cons (rv 7) ra_nil))))
    (rss_cons (rs_if (RW.rt (rw_or (rt_not (rt_val (rcall D__law_is_truth (hr.mono (by decide)) (takes_of rfl rfl rfl rfl) (ra_cons (rcall D_is_word (hr.mono (by decide)) (takes_of rfl rfl rfl rfl) (ra_cons (rv 3) (ra_cons (rv 7) ra_nil))) (ra_cons (rv 8) ra_nil))))) (rw_or1 (rt_not (rt_val (rcall D__law_is_truth (hr.mono (by decide)) (takes_of rfl rfl rfl rfl) (ra_cons (rcallK (ks := ["thing", "back"]) (π := [1, 0]) D_is_word (hr.mono (by decide)) (takes_of rfl rfl rfl rfl) (fun _ _ _ _ _ _ ws us hl e => match ws, hl with | [_, _], _ => by cases e; rfl) rfl (rk_cons (rv 7) (rk_cons (rv 3) rk_nil))) (ra_cons (rv 8) ra_nil)))))))) (rss_one (rs_ret re_bl)) rss_nil)
    (rss_cons (rs_if (RW.rt (rw_and (rt_val (rv 8)) (rw_and1 (rt_cmp (op_neX hr.units) od_ne (rv 7) (rv 11) (nomark _))))) (rss_one rs_continue) rss_nil)
    (rss_cons (rs_for (passes_of rfl) rfl (ri_seq (re_lst (ra_cons (re_nm T.n_free) (ra_cons (re_nm T.n_undone) ra_nil)))) (rg_name (i := 13) sc_law.nd rfl (Or.inr rfl)) (rss_one (rs_if (rt_cmp (op_neX hr.units) od_ne (rv 8) (re_isN (re_caught T.g__law_caught (hr.mono (by decide)) (by rfl) (re_lam TB rfl (LamX.lamS_by (sc := defScope s_law) (by decide +kernel))) (tb_law T D__law_back D__law_begun D__law_is_back D__law_is_truth D__law_is_word D__law_pick D__law_take D__law_word D_free D_is_back D_is_word D_undone) (fun _ => rfl))) (nomark _)) (rss_one (rs_ret re_bl)) rss_nil)))
    (rss_cons (rs_if (RW.rt (rw_and (rt_not (rt_val (rv 8))) (rw_and1 (rt_not (rt_val (re_cb call_isX (ca_isX T.x_isx) (by rfl) T.b_isinstance bx_isinstance (ra_cons (re_caught T.g__law_caught (hr.mono (by decide)) (by rfl) (re_lam TB rfl (LamX.lamS_by (sc := defScope s_law) (by decide +kernel))) (tb_law T D__law_back D__law_begun D__law_is_back D__law_is_truth D__law_is_word D__law_pick D__law_take D__law_word D_free D_is_back D_is_word D_undone) (fun _ => rfl)) (ra_cons (re_nm T.n_BadWord) ra_nil)))))))) (rss_one (rs_ret re_bl)) rss_nil)
    (rss_one (rs_if (RW.rt (rw_and (rt_not (rt_val (rv 8))) (rw_and1 (rt_not (rt_val (re_cb call_isX (ca_isX T.x_isx) (by rfl) T.b_isinstance bx_isinstance (ra_cons (re_caught T.g__law_caught (hr.mono (by decide)) (by rfl) (re_lam TB rfl (LamX.lamS_by (sc := defScope s_law) (by decide +kernel))) (tb_law T D__law_back D__law_begun D__law_is_back D__law_is_truth D__law_is_word D__law_pick D__law_take D__law_word D_free D_is_back D_is_word D_undone) (fun _ => rfl)) (ra_cons (re_nm T.n_BadWord) ra_nil)))))))) (rss_one (rs_ret re_bl)) rss_nil))))))))))))))))))
    (rss_one (rs_ret re_bl))))
end
end K01

namespace K01
open PySem PySem.Spec PyProof.Rows L2 DL
theorem all_mk {P : Program} {w : World} {K : PySem.W.Frag} {h : Heap} {mg : Str → Option Value} {fa : Addr} (X : K.In h) (G : h.Ns mainGlobals mg) (hfa : mg "law" = some (.ref fa))
    {t_LEAST_LETTERS : Tok}
    {t_LONGEST_WORD : Tok}
    {t_MOST_LETTERS : Tok}
    {x_BadBack : Addr}
    {x_BadWord : Addr}
    {x_GroupError : Addr}
    {p_is_number : Addr} {od_is_number an_is_number : Option Addr} {sl_is_number : Array (Option Value)} {oc_is_number kv_is_number dc_is_number pm_is_number cd_is_number ct_is_number : Value}
    {p_is_between : Addr} {od_is_between an_is_between : Option Addr} {sl_is_between : Array (Option Value)} {oc_is_between kv_is_between dc_is_between pm_is_between cd_is_between ct_is_between : Value}
    {p_is_back : Addr} {od_is_back an_is_back : Option Addr} {sl_is_back : Array (Option Value)} {oc_is_back kv_is_back dc_is_back pm_is_back cd_is_back ct_is_back : Value}
    {p_need_back : Addr} {od_need_back an_need_back : Option Addr} {sl_need_back : Array (Option Value)} {oc_need_back kv_need_back dc_need_back pm_need_back cd_need_back ct_need_back : Value}
    {p_is_letters : Addr} {od_is_letters an_is_letters : Option Addr} {sl_is_letters : Array (Option Value)} {oc_is_letters kv_is_letters dc_is_letters pm_is_letters cd_is_letters ct_is_letters : Value}
    {p_is_word : Addr} {od_is_word an_is_word : Option Addr} {sl_is_word : Array (Option Value)} {oc_is_word kv_is_word dc_is_word pm_is_word cd_is_word ct_is_word : Value}
    {p_need_word : Addr} {od_need_word an_need_word : Option Addr} {sl_need_word : Array (Option Value)} {oc_need_word kv_need_word dc_need_word pm_need_word cd_need_word ct_need_word : Value}
    {p_free_of : Addr} {od_free_of an_free_of : Option Addr} {sl_free_of : Array (Option Value)} {oc_free_of kv_free_of dc_free_of pm_free_of cd_free_of ct_free_of : Value}
    {p_free : Addr} {od_free an_free : Option Addr} {sl_free : Array (Option Value)} {oc_free kv_free dc_free pm_free cd_free ct_free : Value}
    {p_undone_of : Addr} {od_undone_of an_undone_of : Option Addr} {sl_undone_of : Array (Option Value)} {oc_undone_of kv_undone_of dc_undone_of pm_undone_of cd_undone_of ct_undone_of : Value}
    {p_undone : Addr} {od_undone an_undone : Option Addr} {sl_undone : Array (Option Value)} {oc_undone kv_undone dc_undone pm_undone cd_undone ct_undone : Value}
    {p__law_begun : Addr} {od__law_begun an__law_begun : Option Addr} {sl__law_begun : Array (Option Value)} {oc__law_begun kv__law_begun dc__law_begun pm__law_begun cd__law_begun ct__law_begun : Value}
    {p__law_mixed : Addr} {od__law_mixed an__law_mixed : Option Addr} {sl__law_mixed : Array (Option Value)} {oc__law_mixed kv__law_mixed dc__law_mixed pm__law_mixed cd__law_mixed ct__law_mixed : Value}
    {p__law_take : Addr} {od__law_take an__law_take : Option Addr} {sl__law_take : Array (Option Value)} {oc__law_take kv__law_take dc__law_take pm__law_take cd__law_take ct__law_take : Value}
    {p__law_pick : Addr} {od__law_pick an__law_pick : Option Addr} {sl__law_pick : Array (Option Value)} {oc__law_pick kv__law_pick dc__law_pick pm__law_pick cd__law_pick ct__law_pick : Value}
    {p__law_shuffled : Addr} {od__law_shuffled an__law_shuffled : Option Addr} {sl__law_shuffled : Array (Option Value)} {oc__law_shuffled kv__law_shuffled dc__law_shuffled pm__law_shuffled cd__law_shuffled ct__law_shuffled : Value}
    {p__law_is_truth : Addr} {od__law_is_truth an__law_is_truth : Option Addr} {sl__law_is_truth : Array (Option Value)} {oc__law_is_truth kv__law_is_truth dc__law_is_truth pm__law_is_truth cd__law_is_truth ct__law_is_truth : Value}
    {p__law_back : Addr} {od__law_back an__law_back : Option Addr} {sl__law_back : Array (Option Value)} {oc__law_back kv__law_back dc__law_back pm__law_back cd__law_back ct__law_back : Value}
    {p__law_word : Addr} {od__law_word an__law_word : Option Addr} {sl__law_word : Array (Option Value)} {oc__law_word kv__law_word dc__law_word pm__law_word cd__law_word ct__law_word : Value}
    {p__law_is_back : Addr} {od__law_is_back an__law_is_back : Option Addr} {sl__law_is_back : Array (Option Value)} {oc__law_is_back kv__law_is_back dc__law_is_back pm__law_is_back cd__law_is_back ct__law_is_back : Value}
    {p__law_is_word : Addr} {od__law_is_word an__law_is_word : Option Addr} {sl__law_is_word : Array (Option Value)} {oc__law_is_word kv__law_is_word dc__law_is_word pm__law_is_word cd__law_is_word ct__law_is_word : Value}
    {p_law tc_law tp_law : Addr} {od_law an_law to_law : Option Addr} {sl_law ts_law : Array (Option Value)} {oc_law kv_law dc_law pm_law ct_law ty_law : Value} {tv_law : Array Value}
    {p__law_caught : Addr} {od__law_caught an__law_caught : Option Addr} {sl__law_caught : Array (Option Value)} {oc__law_caught kv__law_caught dc__law_caught pm__law_caught cd__law_caught ct__law_caught : Value}
    (zb_abs : PySem.W.nsIn K mainGlobals "abs" = some none)
    (zb_all : PySem.W.nsIn K mainGlobals "all" = some none)
    (zb_bool : PySem.W.nsIn K mainGlobals "bool" = some none)
    (zb_int : PySem.W.nsIn K mainGlobals "int" = some none)
    (zb_isinstance : PySem.W.nsIn K mainGlobals "isinstance" = some none)
    (zb_len : PySem.W.nsIn K mainGlobals "len" = some none)
    (zb_list : PySem.W.nsIn K mainGlobals "list" = some none)
    (zb_min : PySem.W.nsIn K mainGlobals "min" = some none)
    (zb_range : PySem.W.nsIn K mainGlobals "range" = some none)
    (zb_tuple : PySem.W.nsIn K mainGlobals "tuple" = some none)
    (zc_LEAST_LETTERS : PySem.W.nsIn K mainGlobals "LEAST_LETTERS" = some (some (.int 2 t_LEAST_LETTERS)))
    (zc_LONGEST_WORD : PySem.W.nsIn K mainGlobals "LONGEST_WORD" = some (some (.int 200 t_LONGEST_WORD)))
    (zc_MOST_LETTERS : PySem.W.nsIn K mainGlobals "MOST_LETTERS" = some (some (.int 12 t_MOST_LETTERS)))
    (zne_BadBack : PySem.W.nsIn K mainGlobals "BadBack" = some (some (.ref x_BadBack)))
    (zxe_BadBack : PySem.W.excIn K x_BadBack [.type "ValueError", .type "Exception", .type "BaseException", .type "object"] "ValueError.__new__" = true)
    (zke_BadBack : PySem.W.keepIn K (.ref x_BadBack) = true)
    (zbe_BadBack : PySem.W.subIn K (.ref x_BadBack) (.type "BaseException") = some true)
    (zte_BadBack : PySem.W.typeIn K (.ref x_BadBack) = some (.type "type"))
    (zne_BadWord : PySem.W.nsIn K mainGlobals "BadWord" = some (some (.ref x_BadWord)))
    (zxe_BadWord : PySem.W.excIn K x_BadWord [.type "ValueError", .type "Exception", .type "BaseException", .type "object"] "ValueError.__new__" = true)
    (zke_BadWord : PySem.W.keepIn K (.ref x_BadWord) = true)
    (zbe_BadWord : PySem.W.subIn K (.ref x_BadWord) (.type "BaseException") = some true)
    (zte_BadWord : PySem.W.typeIn K (.ref x_BadWord) = some (.type "type"))
    (zgn_GroupError : PySem.W.nsIn K mainGlobals "GroupError" = some (some (.ref x_GroupError)))
    (zgb_GroupError : PySem.W.subIn K (.ref x_GroupError) (.type "BaseException") = some true)
    (zgd_GroupError : PySem.W.hasDictIn K x_GroupError = true)
    (zgt_GroupError : PySem.W.typeIn K (.ref x_GroupError) = some (.type "type"))
    (zs_BadWord_GroupError : PySem.W.subIn K (.ref x_BadWord) (.ref x_GroupError) = some true)
    (zs_BadBack_GroupError : PySem.W.subIn K (.ref x_BadBack) (.ref x_GroupError) = some true)
    (y0_BadWord : PySem.W.findIn K (.ref x_BadWord) "__getattribute__" = some (some (.builtin "BaseException.__getattribute__")))
    (y1_BadWord : PySem.W.findIn K (.ref x_BadWord) "__getattr__" = some none)
    (y2_BadWord : PySem.W.subIn K (.ref x_BadWord) (.type "BaseException") = some true)
    (y3_BadWord : PySem.W.hasDictIn K x_BadWord = true)
    (y4_BadWord : PySem.W.findIn K (.ref x_BadWord) "__class__" = some (some (.builtin "object.__class__")))
    (y5_BadWord : PySem.W.specialIn K (.builtin "object.__class__") "__get__" = some (some (.builtin "getset_descriptor.__get__")))
    (y6_BadWord : PySem.W.takesIn K (.builtin "object.__class__") = some true)
    (y7_BadWord : PySem.W.mroIn K x_BadWord (.type "object") = some true)
    (y0_BadBack : PySem.W.findIn K (.ref x_BadBack) "__getattribute__" = some (some (.builtin "BaseException.__getattribute__")))
    (y1_BadBack : PySem.W.findIn K (.ref x_BadBack) "__getattr__" = some none)
    (y2_BadBack : PySem.W.subIn K (.ref x_BadBack) (.type "BaseException") = some true)
    (y3_BadBack : PySem.W.hasDictIn K x_BadBack = true)
    (y4_BadBack : PySem.W.findIn K (.ref x_BadBack) "__class__" = some (some (.builtin "object.__class__")))
    (y5_BadBack : PySem.W.specialIn K (.builtin "object.__class__") "__get__" = some (some (.builtin "getset_descriptor.__get__")))
    (y6_BadBack : PySem.W.takesIn K (.builtin "object.__class__") = some true)
    (y7_BadBack : PySem.W.mroIn K x_BadBack (.type "object") = some true)
    (a_is_number : PySem.W.nsIn K mainGlobals "is_number" = some (some (.ref p_is_number)))
    (l_is_number : K.lookup p_is_number = some ⟨oc_is_number, od_is_number, .func (PySem.W.fnOf "is_number" "is_number" (defArgs s_is_number) (defBody s_is_number) (defScope s_is_number) .none kv_is_number dc_is_number pm_is_number an_is_number cd_is_number ct_is_number), sl_is_number⟩)
    (c_is_number : PySem.W.codeIn K cd_is_number "is_number" = true)
    (k_is_number : PySem.W.keepIn K (.ref p_is_number) = true)
    (a_is_between : PySem.W.nsIn K mainGlobals "is_between" = some (some (.ref p_is_between)))
    (l_is_between : K.lookup p_is_between = some ⟨oc_is_between, od_is_between, .func (PySem.W.fnOf "is_between" "is_between" (defArgs s_is_between) (defBody s_is_between) (defScope s_is_between) .none kv_is_between dc_is_between pm_is_between an_is_between cd_is_between ct_is_between), sl_is_between⟩)
    (c_is_between : PySem.W.codeIn K cd_is_between "is_between" = true)
    (k_is_between : PySem.W.keepIn K (.ref p_is_between) = true)
    (a_is_back : PySem.W.nsIn K mainGlobals "is_back" = some (some (.ref p_is_back)))
    (l_is_back : K.lookup p_is_back = some ⟨oc_is_back, od_is_back, .func (PySem.W.fnOf "is_back" "is_back" (defArgs s_is_back) (defBody s_is_back) (defScope s_is_back) .none kv_is_back dc_is_back pm_is_back an_is_back cd_is_back ct_is_back), sl_is_back⟩)
    (c_is_back : PySem.W.codeIn K cd_is_back "is_back" = true)
    (k_is_back : PySem.W.keepIn K (.ref p_is_back) = true)
    (a_need_back : PySem.W.nsIn K mainGlobals "need_back" = some (some (.ref p_need_back)))
    (l_need_back : K.lookup p_need_back = some ⟨oc_need_back, od_need_back, .func (PySem.W.fnOf "need_back" "need_back" (defArgs s_need_back) (defBody s_need_back) (defScope s_need_back) .none kv_need_back dc_need_back pm_need_back an_need_back cd_need_back ct_need_back), sl_need_back⟩)
    (c_need_back : PySem.W.codeIn K cd_need_back "need_back" = true)
    (k_need_back : PySem.W.keepIn K (.ref p_need_back) = true)
    (a_is_letters : PySem.W.nsIn K mainGlobals "is_letters" = some (some (.ref p_is_letters)))
    (l_is_letters : K.lookup p_is_letters = some ⟨oc_is_letters, od_is_letters, .func (PySem.W.fnOf "is_letters" "is_letters" (defArgs s_is_letters) (defBody s_is_letters) (defScope s_is_letters) .none kv_is_letters dc_is_letters pm_is_letters an_is_letters cd_is_letters ct_is_letters), sl_is_letters⟩)
    (c_is_letters : PySem.W.codeIn K cd_is_letters "is_letters" = true)
    (k_is_letters : PySem.W.keepIn K (.ref p_is_letters) = true)
    (a_is_word : PySem.W.nsIn K mainGlobals "is_word" = some (some (.ref p_is_word)))
    (l_is_word : K.lookup p_is_word = some ⟨oc_is_word, od_is_word, .func (PySem.W.fnOf "is_word" "is_word" (defArgs s_is_word) (defBody s_is_word) (defScope s_is_word) .none kv_is_word dc_is_word pm_is_word an_is_word cd_is_word ct_is_word), sl_is_word⟩)
    (c_is_word : PySem.W.codeIn K cd_is_word "is_word" = true)
    (k_is_word : PySem.W.keepIn K (.ref p_is_word) = true)
    (a_need_word : PySem.W.nsIn K mainGlobals "need_word" = some (some (.ref p_need_word)))
    (l_need_word : K.lookup p_need_word = some ⟨oc_need_word, od_need_word, .func (PySem.W.fnOf "need_word" "need_word" (defArgs s_need_word) (defBody s_need_word) (defScope s_need_word) .none kv_need_word dc_need_word pm_need_word an_need_word cd_need_word ct_need_word), sl_need_word⟩)
    (c_need_word : PySem.W.codeIn K cd_need_word "need_word" = true)
    (k_need_word : PySem.W.keepIn K (.ref p_need_word) = true)
    (a_free_of : PySem.W.nsIn K mainGlobals "free_of" = some (some (.ref p_free_of)))
    (l_free_of : K.lookup p_free_of = some ⟨oc_free_of, od_free_of, .func (PySem.W.fnOf "free_of" "free_of" (defArgs s_free_of) (defBody s_free_of) (defScope s_free_of) .none kv_free_of dc_free_of pm_free_of an_free_of cd_free_of ct_free_of), sl_free_of⟩)
    (c_free_of : PySem.W.codeIn K cd_free_of "free_of" = true)
    (k_free_of : PySem.W.keepIn K (.ref p_free_of) = true)
    (a_free : PySem.W.nsIn K mainGlobals "free" = some (some (.ref p_free)))
    (l_free : K.lookup p_free = some ⟨oc_free, od_free, .func (PySem.W.fnOf "free" "free" (defArgs s_free) (defBody s_free) (defScope s_free) .none kv_free dc_free pm_free an_free cd_free ct_free), sl_free⟩)
    (c_free : PySem.W.codeIn K cd_free "free" = true)
    (k_free : PySem.W.keepIn K (.ref p_free) = true)
    (a_undone_of : PySem.W.nsIn K mainGlobals "undone_of" = some (some (.ref p_undone_of)))
    (l_undone_of : K.lookup p_undone_of = some ⟨oc_undone_of, od_undone_of, .func (PySem.W.fnOf "undone_of" "undone_of" (defArgs s_undone_of) (defBody s_undone_of) (defScope s_undone_of) .none kv_undone_of dc_undone_of pm_undone_of an_undone_of cd_undone_of ct_undone_of), sl_undone_of⟩)
    (c_undone_of : PySem.W.codeIn K cd_undone_of "undone_of" = true)
    (k_undone_of : PySem.W.keepIn K (.ref p_undone_of) = true)
    (a_undone : PySem.W.nsIn K mainGlobals "undone" = some (some (.ref p_undone)))
    (l_undone : K.lookup p_undone = some ⟨oc_undone, od_undone, .func (PySem.W.fnOf "undone" "undone" (defArgs s_undone) (defBody s_undone) (defScope s_undone) .none kv_undone dc_undone pm_undone an_undone cd_undone ct_undone), sl_undone⟩)
    (c_undone : PySem.W.codeIn K cd_undone "undone" = true)
    (k_undone : PySem.W.keepIn K (.ref p_undone) = true)
    (a__law_begun : PySem.W.nsIn K mainGlobals "_law_begun" = some (some (.ref p__law_begun)))
    (l__law_begun : K.lookup p__law_begun = some ⟨oc__law_begun, od__law_begun, .func (PySem.W.fnOf "_law_begun" "_law_begun" (defArgs s__law_begun) (defBody s__law_begun) (defScope s__law_begun) .none kv__law_begun dc__law_begun pm__law_begun an__law_begun cd__law_begun ct__law_begun), sl__law_begun⟩)
    (c__law_begun : PySem.W.codeIn K cd__law_begun "_law_begun" = true)
    (k__law_begun : PySem.W.keepIn K (.ref p__law_begun) = true)
    (a__law_mixed : PySem.W.nsIn K mainGlobals "_law_mixed" = some (some (.ref p__law_mixed)))
    (l__law_mixed : K.lookup p__law_mixed = some ⟨oc__law_mixed, od__law_mixed, .func (PySem.W.fnOf "_law_mixed" "_law_mixed" (defArgs s__law_mixed) (defBody s__law_mixed) (defScope s__law_mixed) .none kv__law_mixed dc__law_mixed pm__law_mixed an__law_mixed cd__law_mixed ct__law_mixed), sl__law_mixed⟩)
    (c__law_mixed : PySem.W.codeIn K cd__law_mixed "_law_mixed" = true)
    (k__law_mixed : PySem.W.keepIn K (.ref p__law_mixed) = true)
    (a__law_take : PySem.W.nsIn K mainGlobals "_law_take" = some (some (.ref p__law_take)))
    (l__law_take : K.lookup p__law_take = some ⟨oc__law_take, od__law_take, .func (PySem.W.fnOf "_law_take" "_law_take" (defArgs s__law_take) (defBody s__law_take) (defScope s__law_take) .none kv__law_take dc__law_take pm__law_take an__law_take cd__law_take ct__law_take), sl__law_take⟩)
    (c__law_take : PySem.W.codeIn K cd__law_take "_law_take" = true)
    (k__law_take : PySem.W.keepIn K (.ref p__law_take) = true)
    (a__law_pick : PySem.W.nsIn K mainGlobals "_law_pick" = some (some (.ref p__law_pick)))
    (l__law_pick : K.lookup p__law_pick = some ⟨oc__law_pick, od__law_pick, .func (PySem.W.fnOf "_law_pick" "_law_pick" (defArgs s__law_pick) (defBody s__law_pick) (defScope s__law_pick) .none kv__law_pick dc__law_pick pm__law_pick an__law_pick cd__law_pick ct__law_pick), sl__law_pick⟩)
    (c__law_pick : PySem.W.codeIn K cd__law_pick "_law_pick" = true)
    (k__law_pick : PySem.W.keepIn K (.ref p__law_pick) = true)
    (a__law_shuffled : PySem.W.nsIn K mainGlobals "_law_shuffled" = some (some (.ref p__law_shuffled)))
    (l__law_shuffled : K.lookup p__law_shuffled = some ⟨oc__law_shuffled, od__law_shuffled, .func (PySem.W.fnOf "_law_shuffled" "_law_shuffled" (defArgs s__law_shuffled) (defBody s__law_shuffled) (defScope s__law_shuffled) .none kv__law_shuffled dc__law_shuffled pm__law_shuffled an__law_shuffled cd__law_shuffled ct__law_shuffled), sl__law_shuffled⟩)
    (c__law_shuffled : PySem.W.codeIn K cd__law_shuffled "_law_shuffled" = true)
    (k__law_shuffled : PySem.W.keepIn K (.ref p__law_shuffled) = true)
    (a__law_is_truth : PySem.W.nsIn K mainGlobals "_law_is_truth" = some (some (.ref p__law_is_truth)))
    (l__law_is_truth : K.lookup p__law_is_truth = some ⟨oc__law_is_truth, od__law_is_truth, .func (PySem.W.fnOf "_law_is_truth" "_law_is_truth" (defArgs s__law_is_truth) (defBody s__law_is_truth) (defScope s__law_is_truth) .none kv__law_is_truth dc__law_is_truth pm__law_is_truth an__law_is_truth cd__law_is_truth ct__law_is_truth), sl__law_is_truth⟩)
    (c__law_is_truth : PySem.W.codeIn K cd__law_is_truth "_law_is_truth" = true)
    (k__law_is_truth : PySem.W.keepIn K (.ref p__law_is_truth) = true)
    (a__law_back : PySem.W.nsIn K mainGlobals "_law_back" = some (some (.ref p__law_back)))
    (l__law_back : K.lookup p__law_back = some ⟨oc__law_back, od__law_back, .func (PySem.W.fnOf "_law_back" "_law_back" (defArgs s__law_back) (defBody s__law_back) (defScope s__law_back) .none kv__law_back dc__law_back pm__law_back an__law_back cd__law_back ct__law_back), sl__law_back⟩)
    (c__law_back : PySem.W.codeIn K cd__law_back "_law_back" = true)
    (k__law_back : PySem.W.keepIn K (.ref p__law_back) = true)
    (a__law_word : PySem.W.nsIn K mainGlobals "_law_word" = some (some (.ref p__law_word)))
    (l__law_word : K.lookup p__law_word = some ⟨oc__law_word, od__law_word, .func (PySem.W.fnOf "_law_word" "_law_word" (defArgs s__law_word) (defBody s__law_word) (defScope s__law_word) .none kv__law_word dc__law_word pm__law_word an__law_word cd__law_word ct__law_word), sl__law_word⟩)
    (c__law_word : PySem.W.codeIn K cd__law_word "_law_word" = true)
    (k__law_word : PySem.W.keepIn K (.ref p__law_word) = true)
    (a__law_is_back : PySem.W.nsIn K mainGlobals "_law_is_back" = some (some (.ref p__law_is_back)))
    (l__law_is_back : K.lookup p__law_is_back = some ⟨oc__law_is_back, od__law_is_back, .func (PySem.W.fnOf "_law_is_back" "_law_is_back" (defArgs s__law_is_back) (defBody s__law_is_back) (defScope s__law_is_back) .none kv__law_is_back dc__law_is_back pm__law_is_back an__law_is_back cd__law_is_back ct__law_is_back), sl__law_is_back⟩)
    (c__law_is_back : PySem.W.codeIn K cd__law_is_back "_law_is_back" = true)
    (k__law_is_back : PySem.W.keepIn K (.ref p__law_is_back) = true)
    (a__law_is_word : PySem.W.nsIn K mainGlobals "_law_is_word" = some (some (.ref p__law_is_word)))
    (l__law_is_word : K.lookup p__law_is_word = some ⟨oc__law_is_word, od__law_is_word, .func (PySem.W.fnOf "_law_is_word" "_law_is_word" (defArgs s__law_is_word) (defBody s__law_is_word) (defScope s__law_is_word) .none kv__law_is_word dc__law_is_word pm__law_is_word an__law_is_word cd__law_is_word ct__law_is_word), sl__law_is_word⟩)
    (c__law_is_word : PySem.W.codeIn K cd__law_is_word "_law_is_word" = true)
    (k__law_is_word : PySem.W.keepIn K (.ref p__law_is_word) = true)
    (a_law : PySem.W.nsIn K mainGlobals "law" = some (some (.ref p_law)))
    (l_law : K.lookup p_law = some ⟨oc_law, od_law, .func (PySem.W.fnOf "law" "law" (defArgs s_law) (defBody s_law) (defScope s_law) .none kv_law dc_law pm_law an_law (.ref tc_law) ct_law), sl_law⟩)
    (c_law : PySem.W.codeIn K (.ref tc_law) "law" = true)
    (t_law : K.lookup tc_law = some ⟨ty_law, to_law, .fields tv_law, ts_law⟩)
    (v_law : (tv_law[11]? : Option Value) = some (.ref tp_law))
    (n_law : K.lookup tp_law = none)
    (a__law_caught : PySem.W.nsIn K mainGlobals "_law_caught" = some (some (.ref p__law_caught)))
    (l__law_caught : K.lookup p__law_caught = some ⟨oc__law_caught, od__law_caught, .func (PySem.W.fnOf "_law_caught" "_law_caught" (defArgs s__law_caught) (defBody s__law_caught) (defScope s__law_caught) .none kv__law_caught dc__law_caught pm__law_caught an__law_caught cd__law_caught ct__law_caught), sl__law_caught⟩)
    (c__law_caught : PySem.W.codeIn K cd__law_caught "_law_caught" = true)
    (k__law_caught : PySem.W.keepIn K (.ref p__law_caught) = true) :
    ∃ cs : Tbs, (∀ p ∈ cs, ∃ (x : Str) (dr : DefRec), (PyProof.Rows.recsOf PySem.Challenge.pw_gatewords_k01_letters_and_words_judged).find? (fun e => e.name == x) = some dr ∧ PySem.W.tabIn K x = some (p.1, p.2.1)) ∧ (∀ p ∈ cs, K.lookup p.2.1 = none) ∧
      ∀ base : Heap, K.In base → base.Ns mainGlobals mg → (∀ p ∈ cs, LamX.TabB base mg p.1 p.2.1) → LawAtT P w K mg base fa cs := by
  have e := hfa.symm.trans (PySem.W.mg_of X G a_law)
  cases e
  refine ⟨[(tc_law, tp_law, qn "law" ++ "<lambda>")], fun p hp => ?_, fun p hp => ?_, fun base _ _ TB => ?_⟩
  · rw [List.mem_singleton.mp hp]
    exact ⟨"law", _, rfl, tab_mk a_law l_law rfl t_law v_law⟩
  · rw [List.mem_singleton.mp hp]
    exact n_law
  have TB := TB _ (List.mem_singleton.mpr rfl)
  have T : Txt K mg := { b_abs := PySem.W.mg_none_of X G zb_abs, b_all := PySem.W.mg_none_of X G zb_all, b_bool := PySem.W.mg_none_of X G zb_bool, b_int := PySem.W.mg_none_of X G zb_int, b_isinstance := PySem.W.mg_none_of X G zb_isinstance, b_len := PySem.W.mg_none_of X G zb_len, b_list := PySem.W.mg_none_of X G zb_list, b_min := PySem.W.mg_none_of X G zb_min, b_range := PySem.W.mg_none_of X G zb_range, b_tuple := PySem.W.mg_none_of X G zb_tuple, c_LEAST_LETTERS := ⟨_, PySem.W.mg_of X G zc_LEAST_LETTERS⟩, c_LONGEST_WORD := ⟨_, PySem.W.mg_of X G zc_LONGEST_WORD⟩, c_MOST_LETTERS := ⟨_, PySem.W.mg_of X G zc_MOST_LETTERS⟩, e_BadBack := ⟨_, PySem.W.mg_of X G zne_BadBack, zne_BadBack, zxe_BadBack, zke_BadBack, zbe_BadBack, zte_BadBack⟩, e_BadWord := ⟨_, PySem.W.mg_of X G zne_BadWord, zne_BadWord, zxe_BadWord, zke_BadWord, zbe_BadWord, zte_BadWord⟩, g__law_caught := ⟨_, _, s__law_caught, _, PySem.W.mg_of X G a__law_caught, (fun_mk (st := s__law_caught) l__law_caught c__law_caught k__law_caught), L2.Fun.binds (fun_mk (st := s__law_caught) l__law_caught c__law_caught k__law_caught) (fun _ _ _ _ _ _ us hl => match us, hl with | [_], _ => rfl), sc__law_caught, rfl, rfl, rfl, rfl, PySem.W.mg_of X G zgn_GroupError, (exm_cons zne_BadBack zs_BadBack_GroupError zgb_GroupError zgd_GroupError zgt_GroupError (exm_cons zne_BadWord zs_BadWord_GroupError zgb_GroupError zgd_GroupError zgt_GroupError exm_nil)), _, _, _, _, _, _, _, _, _, _, _, _, _, _, _, rfl⟩, x_isx := (isx_cons zne_BadBack zne_BadBack ⟨y0_BadBack, y1_BadBack, y2_BadBack, y3_BadBack, y4_BadBack, y5_BadBack, y6_BadBack, y7_BadBack⟩ (kit_self (by first | exact beq_self_eq_true _ | simp)) (isx_cons zne_BadWord zne_BadWord ⟨y0_BadWord, y1_BadWord, y2_BadWord, y3_BadWord, y4_BadWord, y5_BadWord, y6_BadWord, y7_BadWord⟩ (kit_self (by first | exact beq_self_eq_true _ | simp)) isx_nil)), n_BadBack := ⟨_, PySem.W.mg_of X G zne_BadBack, zne_BadBack⟩, n_BadWord := ⟨_, PySem.W.mg_of X G zne_BadWord, zne_BadWord⟩, n_free := ⟨_, PySem.W.mg_of X G a_free, a_free⟩, n_undone := ⟨_, PySem.W.mg_of X G a_undone, a_undone⟩ }
  have D_is_number : Def P w K mg base 1 "is_number" s_is_number ["thing"] sd_is_number := def_ok (PySem.W.mg_of X G a_is_number) (fun_mk (st := s_is_number) l_is_number c_is_number k_is_number) sc_is_number (fun _ _ _ _ _ _ us hl => match us, hl with | [_], _ => rfl)
    (fun ds μ Q E h => by unfold sd_is_number at h; repeat first | (obtain ⟨rfl, _⟩ := h; rfl) | (obtain ⟨_, h⟩ := h)) (fun cdv A outer s H E hr => rd_is_number T  hr) pu_is_number
  have D_is_between : Def P w K mg base 2 "is_between" s_is_between ["thing", "low", "high"] sd_is_between := def_ok (PySem.W.mg_of X G a_is_between) (fun_mk (st := s_is_between) l_is_between c_is_between k_is_between) sc_is_between (fun _ _ _ _ _ _ us hl => match us, hl with | [_, _, _], _ => rfl)
    (fun ds μ Q E h => by unfold sd_is_between at h; repeat first | (obtain ⟨rfl, _⟩ := h; rfl) | (obtain ⟨_, h⟩ := h)) (fun cdv A outer s H E hr => rd_is_between T D_is_number hr) pu_is_between
  have D_is_back : Def P w K mg base 3 "is_back" s_is_back ["thing"] sd_is_back := def_ok (PySem.W.mg_of X G a_is_back) (fun_mk (st := s_is_back) l_is_back c_is_back k_is_back) sc_is_back (fun _ _ _ _ _ _ us hl => match us, hl with | [_], _ => rfl)
    (fun ds μ Q E h => by unfold sd_is_back at h; repeat first | (obtain ⟨rfl, _⟩ := h; rfl) | (obtain ⟨_, h⟩ := h)) (fun cdv A outer s H E hr => rd_is_back T D_is_between hr) pu_is_back
  have D_need_back : Def P w K mg base 4 "need_back" s_need_back ["back"] sd_need_back := def_ok (PySem.W.mg_of X G a_need_back) (fun_mk (st := s_need_back) l_need_back c_need_back k_need_back) sc_need_back (fun _ _ _ _ _ _ us hl => match us, hl with | [_], _ => rfl)
    (fun ds μ Q E h => by unfold sd_need_back at h; repeat first | (obtain ⟨rfl, _⟩ := h; rfl) | (obtain ⟨_, h⟩ := h)) (fun cdv A outer s H E hr => rd_need_back T D_is_back hr) pu_need_back
  have D_is_letters : Def P w K mg base 3 "is_letters" s_is_letters ["back", "thing"] sd_is_letters := def_ok (PySem.W.mg_of X G a_is_letters) (fun_mk (st := s_is_letters) l_is_letters c_is_letters k_is_letters) sc_is_letters (fun _ _ _ _ _ _ us hl => match us, hl with | [_, _], _ => rfl)
    (fun ds μ Q E h => by unfold sd_is_letters at h; repeat first | (obtain ⟨rfl, _⟩ := h; rfl) | (obtain ⟨_, h⟩ := h)) (fun cdv A outer s H E hr => rd_is_letters T D_is_between hr) pu_is_letters
  have D_is_word : Def P w K mg base 5 "is_word" s_is_word ["back", "thing"] sd_is_word := def_ok (PySem.W.mg_of X G a_is_word) (fun_mk (st := s_is_word) l_is_word c_is_word k_is_word) sc_is_word (fun _ _ _ _ _ _ us hl => match us, hl with | [_, _], _ => rfl)
    (fun ds μ Q E h => by unfold sd_is_word at h; repeat first | (obtain ⟨rfl, _⟩ := h; rfl) | (obtain ⟨_, h⟩ := h)) (fun cdv A outer s H E hr => rd_is_word T D_is_letters D_need_back hr) pu_is_word
  have D_need_word : Def P w K mg base 6 "need_word" s_need_word ["back", "thing"] sd_need_word := def_ok (PySem.W.mg_of X G a_need_word) (fun_mk (st := s_need_word) l_need_word c_need_word k_need_word) sc_need_word (fun _ _ _ _ _ _ us hl => match us, hl with | [_, _], _ => rfl)
    (fun ds μ Q E h => by unfold sd_need_word at h; repeat first | (obtain ⟨rfl, _⟩ := h; rfl) | (obtain ⟨_, h⟩ := h)) (fun cdv A outer s H E hr => rd_need_word T D_is_word hr) pu_need_word
  have D_free_of : Def P w K mg base 1 "free_of" s_free_of ["back", "word"] sd_free_of := def_ok (PySem.W.mg_of X G a_free_of) (fun_mk (st := s_free_of) l_free_of c_free_of k_free_of) sc_free_of (fun _ _ _ _ _ _ us hl => match us, hl with | [_, _], _ => rfl)
    (fun ds μ Q E h => by unfold sd_free_of at h; repeat first | (obtain ⟨rfl, _⟩ := h; rfl) | (obtain ⟨_, h⟩ := h)) (fun cdv A outer s H E hr => rd_free_of T  hr) pu_free_of
  have D_free : Def P w K mg base 7 "free" s_free ["back", "word"] sd_free := def_ok (PySem.W.mg_of X G a_free) (fun_mk (st := s_free) l_free c_free k_free) sc_free (fun _ _ _ _ _ _ us hl => match us, hl with | [_, _], _ => rfl)
    (fun ds μ Q E h => by unfold sd_free at h; repeat first | (obtain ⟨rfl, _⟩ := h; rfl) | (obtain ⟨_, h⟩ := h)) (fun cdv A outer s H E hr => rd_free T D_free_of D_need_word hr) pu_free
  have D_undone_of : Def P w K mg base 1 "undone_of" s_undone_of ["back", "word"] sd_undone_of := def_ok (PySem.W.mg_of X G a_undone_of) (fun_mk (st := s_undone_of) l_undone_of c_undone_of k_undone_of) sc_undone_of (fun _ _ _ _ _ _ us hl => match us, hl with | [_, _], _ => rfl)
    (fun ds μ Q E h => by unfold sd_undone_of at h; repeat first | (obtain ⟨rfl, _⟩ := h; rfl) | (obtain ⟨_, h⟩ := h)) (fun cdv A outer s H E hr => rd_undone_of T  hr) pu_undone_of
  have D_undone : Def P w K mg base 7 "undone" s_undone ["back", "word"] sd_undone := def_ok (PySem.W.mg_of X G a_undone) (fun_mk (st := s_undone) l_undone c_undone k_undone) sc_undone (fun _ _ _ _ _ _ us hl => match us, hl with | [_, _], _ => rfl)
    (fun ds μ Q E h => by unfold sd_undone at h; repeat first | (obtain ⟨rfl, _⟩ := h; rfl) | (obtain ⟨_, h⟩ := h)) (fun cdv A outer s H E hr => rd_undone T D_need_word D_undone_of hr) pu_undone
  have D__law_begun : Def P w K mg base 1 "_law_begun" s__law_begun ["script"] sd__law_begun := def_ok (PySem.W.mg_of X G a__law_begun) (fun_mk (st := s__law_begun) l__law_begun c__law_begun k__law_begun) sc__law_begun (fun _ _ _ _ _ _ us hl => match us, hl with | [_], _ => rfl)
    (fun ds μ Q E h => by unfold sd__law_begun at h; repeat first | (obtain ⟨rfl, _⟩ := h; rfl) | (obtain ⟨_, h⟩ := h)) (fun cdv A outer s H E hr => rd__law_begun T  hr) pu__law_begun
  have D__law_mixed : Def P w K mg base 1 "_law_mixed" s__law_mixed ["draw"] sd__law_mixed := def_ok (PySem.W.mg_of X G a__law_mixed) (fun_mk (st := s__law_mixed) l__law_mixed c__law_mixed k__law_mixed) sc__law_mixed (fun _ _ _ _ _ _ us hl => match us, hl with | [_], _ => rfl)
    (fun ds μ Q E h => by unfold sd__law_mixed at h; repeat first | (obtain ⟨rfl, _⟩ := h; rfl) | (obtain ⟨_, h⟩ := h)) (fun cdv A outer s H E hr => rd__law_mixed T  hr) pu__law_mixed
  have D__law_take : Def P w K mg base 2 "_law_take" s__law_take ["draw", "amount"] sd__law_take := def_ok (PySem.W.mg_of X G a__law_take) (fun_mk (st := s__law_take) l__law_take c__law_take k__law_take) sc__law_take (fun _ _ _ _ _ _ us hl => match us, hl with | [_, _], _ => rfl)
    (fun ds μ Q E h => by unfold sd__law_take at h; repeat first | (obtain ⟨rfl, _⟩ := h; rfl) | (obtain ⟨_, h⟩ := h)) (fun cdv A outer s H E hr => rd__law_take T D__law_mixed hr) pu__law_take
  have D__law_pick : Def P w K mg base 3 "_law_pick" s__law_pick ["draw", "some"] sd__law_pick := def_ok (PySem.W.mg_of X G a__law_pick) (fun_mk (st := s__law_pick) l__law_pick c__law_pick k__law_pick) sc__law_pick (fun _ _ _ _ _ _ us hl => match us, hl with | [_, _], _ => rfl)
    (fun ds μ Q E h => by unfold sd__law_pick at h; repeat first | (obtain ⟨rfl, _⟩ := h; rfl) | (obtain ⟨_, h⟩ := h)) (fun cdv A outer s H E hr => rd__law_pick T D__law_take hr) pu__law_pick
  have D__law_shuffled : Def P w K mg base 3 "_law_shuffled" s__law_shuffled ["draw", "some"] sd__law_shuffled := def_ok (PySem.W.mg_of X G a__law_shuffled) (fun_mk (st := s__law_shuffled) l__law_shuffled c__law_shuffled k__law_shuffled) sc__law_shuffled (fun _ _ _ _ _ _ us hl => match us, hl with | [_, _], _ => rfl)
    (fun ds μ Q E h => by unfold sd__law_shuffled at h; repeat first | (obtain ⟨rfl, _⟩ := h; rfl) | (obtain ⟨_, h⟩ := h)) (fun cdv A outer s H E hr => rd__law_shuffled T D__law_take hr) pu__law_shuffled
  have D__law_is_truth : Def P w K mg base 1 "_law_is_truth" s__law_is_truth ["found", "due"] sd__law_is_truth := def_ok (PySem.W.mg_of X G a__law_is_truth) (fun_mk (st := s__law_is_truth) l__law_is_truth c__law_is_truth k__law_is_truth) sc__law_is_truth (fun _ _ _ _ _ _ us hl => match us, hl with | [_, _], _ => rfl)
    (fun ds μ Q E h => by unfold sd__law_is_truth at h; repeat first | (obtain ⟨rfl, _⟩ := h; rfl) | (obtain ⟨_, h⟩ := h)) (fun cdv A outer s H E hr => rd__law_is_truth T  hr) pu__law_is_truth
  have D__law_back : Def P w K mg base 4 "_law_back" s__law_back ["draw"] sd__law_back := def_ok (PySem.W.mg_of X G a__law_back) (fun_mk (st := s__law_back) l__law_back c__law_back k__law_back) sc__law_back (fun _ _ _ _ _ _ us hl => match us, hl with | [_], _ => rfl)
    (fun ds μ Q E h => by unfold sd__law_back at h; repeat first | (obtain ⟨rfl, _⟩ := h; rfl) | (obtain ⟨_, h⟩ := h)) (fun cdv A outer s H E hr => rd__law_back T D__law_shuffled D__law_take hr) pu__law_back
  have D__law_word : Def P w K mg base 3 "_law_word" s__law_word ["draw", "back_here", "most"] sd__law_word := def_ok (PySem.W.mg_of X G a__law_word) (fun_mk (st := s__law_word) l__law_word c__law_word k__law_word) sc__law_word (fun _ _ _ _ _ _ us hl => match us, hl with | [_, _, _], _ => rfl)
    (fun ds μ Q E h => by unfold sd__law_word at h; repeat first | (obtain ⟨rfl, _⟩ := h; rfl) | (obtain ⟨_, h⟩ := h)) (fun cdv A outer s H E hr => rd__law_word T D__law_take hr) pu__law_word
  have D__law_is_back : Def P w K mg base 1 "_law_is_back" s__law_is_back ["thing"] sd__law_is_back := def_ok (PySem.W.mg_of X G a__law_is_back) (fun_mk (st := s__law_is_back) l__law_is_back c__law_is_back k__law_is_back) sc__law_is_back (fun _ _ _ _ _ _ us hl => match us, hl with | [_], _ => rfl)
    (fun ds μ Q E h => by unfold sd__law_is_back at h; repeat first | (obtain ⟨rfl, _⟩ := h; rfl) | (obtain ⟨_, h⟩ := h)) (fun cdv A outer s H E hr => rd__law_is_back T  hr) pu__law_is_back
  have D__law_is_word : Def P w K mg base 1 "_law_is_word" s__law_is_word ["back_here", "thing"] sd__law_is_word := def_ok (PySem.W.mg_of X G a__law_is_word) (fun_mk (st := s__law_is_word) l__law_is_word c__law_is_word k__law_is_word) sc__law_is_word (fun _ _ _ _ _ _ us hl => match us, hl with | [_, _], _ => rfl)
    (fun ds μ Q E h => by unfold sd__law_is_word at h; repeat first | (obtain ⟨rfl, _⟩ := h; rfl) | (obtain ⟨_, h⟩ := h)) (fun cdv A outer s H E hr => rd__law_is_word T  hr) pu__law_is_word
  exact law_atT (k := 9) (db := db_law tp_law) l_law c_law sc_law (fun s u => .of_eq rfl) ⟨rfl, by decide, by decide⟩ (fun s H E hr => rd_law T D__law_back D__law_begun D__law_is_back D__law_is_truth D__law_is_word D__law_pick D__law_take D__law_word D_free D_is_back D_is_word D_undone TB hr) (fun C ds μ Q QE h => pu_law ds μ Q QE h)
end K01
open PySem PySem.W PyProof.Rows
set_option maxHeartbeats 8000000 in
theorem PySem.Challenge.cw_gatewords_k01_letters_and_words_judged_holds : PySem.Challenge.rw_gatewords_k01_letters_and_words_judged.Holds := by
  w_on; o_law; k_head; (case hw => w_witness2)
  k_fill
  refine DL.walk_dataT (l := PySem.Challenge.rw_gatewords_k01_letters_and_words_judged) rfl rfl (fun w h Y => PySem.W.km_in_of Y) ?F
  case F =>
    intro w mg fa h KX G hmg
    refine' K01.all_mk KX G hmg ?zb_abs ?zb_all ?zb_bool ?zb_int ?zb_isinstance ?zb_len ?zb_list ?zb_min ?zb_range ?zb_tuple ?zc_LEAST_LETTERS ?zc_LONGEST_WORD ?zc_MOST_LETTERS ?zne_BadBack ?zxe_BadBack ?zke_BadBack ?zbe_BadBack ?zte_BadBack ?zne_BadWord ?zxe_BadWord ?zke_BadWord ?zbe_BadWord ?zte_BadWord ?zgn_GroupError ?zgb_GroupError ?zgd_GroupError ?zgt_GroupError ?zs_BadWord_GroupError ?zs_BadBack_GroupError ?y0_BadWord ?y1_BadWord ?y2_BadWord ?y3_BadWord ?y4_BadWord ?y5_BadWord ?y6_BadWord ?y7_BadWord ?y0_BadBack ?y1_BadBack ?y2_BadBack ?y3_BadBack ?y4_BadBack ?y5_BadBack ?y6_BadBack ?y7_BadBack ?a_is_number ?l_is_number ?c_is_number ?k_is_number ?a_is_between ?l_is_between ?c_is_between ?k_is_between ?a_is_back ?l_is_back ?c_is_back ?k_is_back ?a_need_back ?l_need_back ?c_need_back ?k_need_back ?a_is_letters ?l_is_letters ?c_is_letters ?k_is_letters ?a_is_word ?l_is_word ?c_is_word ?k_is_word ?a_need_word ?l_need_word ?c_need_word ?k_need_word ?a_free_of ?l_free_of ?c_free_of ?k_free_of ?a_free ?l_free ?c_free ?k_free ?a_undone_of ?l_undone_of ?c_undone_of ?k_undone_of ?a_undone ?l_undone ?c_undone ?k_undone ?a__law_begun ?l__law_begun ?c__law_begun ?k__law_begun ?a__law_mixed ?l__law_mixed ?c__law_mixed ?k__law_mixed ?a__law_take ?l__law_take ?c__law_take ?k__law_take ?a__law_pick ?l__law_pick ?c__law_pick ?k__law_pick ?a__law_shuffled ?l__law_shuffled ?c__law_shuffled ?k__law_shuffled ?a__law_is_truth ?l__law_is_truth ?c__law_is_truth ?k__law_is_truth ?a__law_back ?l__law_back ?c__law_back ?k__law_back ?a__law_word ?l__law_word ?c__law_word ?k__law_word ?a__law_is_back ?l__law_is_back ?c__law_is_back ?k__law_is_back ?a__law_is_word ?l__law_is_word ?c__law_is_word ?k__law_is_word ?a_law ?l_law ?c_law ?t_law ?v_law ?n_law ?a__law_caught ?l__law_caught ?c__law_caught ?k__law_caught
    (case zb_abs => k_is)
    (case zb_all => k_is)
    (case zb_bool => k_is)
    (case zb_int => k_is)
    (case zb_isinstance => k_is)
    (case zb_len => k_is)
    (case zb_list => k_is)
    (case zb_min => k_is)
    (case zb_range => k_is)
    (case zb_tuple => k_is)
    (case zc_LEAST_LETTERS => k_is)
    (case zc_LONGEST_WORD => k_is)
    (case zc_MOST_LETTERS => k_is)
    (case zne_BadBack => k_is)
    (case zxe_BadBack => k_exc)
    (case zke_BadBack => k_is)
    (case zbe_BadBack => k_is)
    (case zte_BadBack => k_is)
    (case zne_BadWord => k_is)
    (case zxe_BadWord => k_exc)
    (case zke_BadWord => k_is)
    (case zbe_BadWord => k_is)
    (case zte_BadWord => k_is)
    (case zgn_GroupError => k_is)
    (case zgb_GroupError => k_is)
    (case zgd_GroupError => k_is)
    (case zgt_GroupError => k_is)
    (case zs_BadWord_GroupError => k_is)
    (case zs_BadBack_GroupError => k_is)
    (case y0_BadWord => k_is)
    (case y1_BadWord => k_is)
    (case y2_BadWord => k_is)
    (case y3_BadWord => k_is)
    (case y4_BadWord => k_is)
    (case y5_BadWord => k_is)
    (case y6_BadWord => k_is)
    (case y7_BadWord => k_is)
    (case y0_BadBack => k_is)
    (case y1_BadBack => k_is)
    (case y2_BadBack => k_is)
    (case y3_BadBack => k_is)
    (case y4_BadBack => k_is)
    (case y5_BadBack => k_is)
    (case y6_BadBack => k_is)
    (case y7_BadBack => k_is)
    (case a_is_number => k_is)
    (case l_is_number => k_is)
    (case c_is_number => k_is)
    (case k_is_number => k_is)
    (case a_is_between => k_is)
    (case l_is_between => k_is)
    (case c_is_between => k_is)
    (case k_is_between => k_is)
    (case a_is_back => k_is)
    (case l_is_back => k_is)
    (case c_is_back => k_is)
    (case k_is_back => k_is)
    (case a_need_back => k_is)
    (case l_need_back => k_is)
    (case c_need_back => k_is)
    (case k_need_back => k_is)
    (case a_is_letters => k_is)
    (case l_is_letters => k_is)
    (case c_is_letters => k_is)
    (case k_is_letters => k_is)
    (case a_is_word => k_is)
    (case l_is_word => k_is)
    (case c_is_word => k_is)
    (case k_is_word => k_is)
    (case a_need_word => k_is)
    (case l_need_word => k_is)
    (case c_need_word => k_is)
    (case k_need_word => k_is)
    (case a_free_of => k_is)
    (case l_free_of => k_is)
    (case c_free_of => k_is)
    (case k_free_of => k_is)
    (case a_free => k_is)
    (case l_free => k_is)
    (case c_free => k_is)
    (case k_free => k_is)
    (case a_undone_of => k_is)
    (case l_undone_of => k_is)
    (case c_undone_of => k_is)
    (case k_undone_of => k_is)
    (case a_undone => k_is)
    (case l_undone => k_is)
    (case c_undone => k_is)
    (case k_undone => k_is)
    (case a__law_begun => k_is)
    (case l__law_begun => k_is)
    (case c__law_begun => k_is)
    (case k__law_begun => k_is)
    (case a__law_mixed => k_is)
    (case l__law_mixed => k_is)
    (case c__law_mixed => k_is)
    (case k__law_mixed => k_is)
    (case a__law_take => k_is)
    (case l__law_take => k_is)
    (case c__law_take => k_is)
    (case k__law_take => k_is)
    (case a__law_pick => k_is)
    (case l__law_pick => k_is)
    (case c__law_pick => k_is)
    (case k__law_pick => k_is)
    (case a__law_shuffled => k_is)
    (case l__law_shuffled => k_is)
    (case c__law_shuffled => k_is)
    (case k__law_shuffled => k_is)
    (case a__law_is_truth => k_is)
    (case l__law_is_truth => k_is)
    (case c__law_is_truth => k_is)
    (case k__law_is_truth => k_is)
    (case a__law_back => k_is)
    (case l__law_back => k_is)
    (case c__law_back => k_is)
    (case k__law_back => k_is)
    (case a__law_word => k_is)
    (case l__law_word => k_is)
    (case c__law_word => k_is)
    (case k__law_word => k_is)
    (case a__law_is_back => k_is)
    (case l__law_is_back => k_is)
    (case c__law_is_back => k_is)
    (case k__law_is_back => k_is)
    (case a__law_is_word => k_is)
    (case l__law_is_word => k_is)
    (case c__law_is_word => k_is)
    (case k__law_is_word => k_is)
    (case a_law => k_is)
    (case l_law => k_is)
    (case c_law => k_is)
    (case t_law => k_is)
    (case v_law => rfl)
    (case n_law => kernel_rfl)
    (case a__law_caught => k_is)
    (case l__law_caught => k_is)
    (case c__law_caught => k_is)
    (case k__law_caught => k_is)
