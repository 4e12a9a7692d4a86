import PyProof.Rows.All
import Wide.All
import OpenK.AllK
import Wide.FinOn
import HandS.ForMost
import HandS.Walk
import HandS.Conv
import HandS.Property
import HandS.ClsMeth
import HandS.MakeKw
import HandS.MakeKwOnly
import HandS.Wide
import HandS.WideBits
import HandS.Gcd
import HandS.FStr
import HandS.IsInst
import HandS.RaiseMore
import KE.KOpsOwn
import KE.KCallOwn
import PyProof.TwoTypes
import HandS.NoneIn
import HandS.Style
import PyProof.InstEq
import PyProof.Walk
import PyProof.WalkLemmas
import PyProof.ReprHeads
import HandS.Deep
import PyProof.ReprReads
import PyProof.ReprNest
import HandS.Ends
import HandS.EndBits
import KE.RegKIsAll
import PySem.Challenge.RW_straightened_k11_whole_ratios_reckoned
section
set_option Elab.async false
set_option linter.all false
set_option maxRecDepth 100000
set_option maxHeartbeats 2000000
/-! DBase: data without a heap (D), what a value denotes (Den), slots that hold data or own an object (Sl), judgements over these. -/
namespace Dn
open PySem PySem.Spec L2

inductive D where
  | non | bl (b : Bool) | int (i : Int) | str (x : Str) | adr (a : Addr) | ty (n : String)
  | lst (xs : List D) | tup (xs : List D) | lstK (xs : List D) | tupK (xs : List D) | obj (C : Addr) (fs : List (Str × D)) | dct (kvs : List (Key × D))

def Ex (H H' : Hp) : Prop := ∀ a o, H a = some o → H' a = some o
theorem Ex.refl (H : Hp) : Ex H H := fun _ _ h => h
theorem Ex.trans {H H1 H2 : Hp} (a : Ex H H1) (b : Ex H1 H2) : Ex H H2 := fun x o h => b x o (a x o h)
theorem Ex.new {H : Hp} {p : Addr} {o : HO} (h : H p = none) : Ex H (upd H p o) := fun a u e => by
  rw [upd_ne (ne_of_none e h)]
  exact e
theorem Ex.none {H H' : Hp} (e : Ex H H') {p : Addr} (h : H' p = Option.none) : H p = Option.none := by
  cases q : H p with
  | none => rfl
  | some o =>
    rw [e p o q] at h
    cases h
theorem Ex.upd2 {H H' : Hp} {p : Addr} {o : HO} (e : Ex H H') (h : H p = Option.none) : Ex (upd H p o) (upd H' p o) := fun a u q => by
  by_cases hp : a = p
  · subst hp
    rw [upd_same] at q ⊢
    exact q
  · rw [upd_ne hp] at q ⊢
    exact e a u q
theorem ex_rd {H H' : Hp} {a : Addr} {u : HO} (e : Ex H H') (h : Rd H a u) : Rd H' a u := by
  rcases h with h | ⟨o, h⟩
  · exact Or.inl (e a _ h)
  · exact Or.inr ⟨o, e a _ h⟩
theorem ex_l {K : PySem.W.Frag} {H H' : Hp} {a : Addr} {xs : List V} (e : Ex H H') (h : SqL K H a xs) : SqL K H' a xs := by
  rcases h with h | h
  · exact Or.inl (ex_rd e h)
  · exact Or.inr h
theorem ex_t {K : PySem.W.Frag} {H H' : Hp} {a : Addr} {xs : List V} (e : Ex H H') (h : SqT K H a xs) : SqT K H' a xs := by
  rcases h with h | h
  · exact Or.inl (ex_rd e h)
  · exact Or.inr h

/-! ### what a value denotes in a heap -/
mutual
inductive Den (K : PySem.W.Frag) (H : Hp) : V → D → Prop
  | non : Den K H .non .non
  | bl (b : Bool) : Den K H (.bl b) (.bl b)
  | int (i : Int) : Den K H (.int i) (.int i)
  | str (x : Str) : Den K H (.str x) (.str x)
  | adr (a : Addr) : Den K H (.ref a) (.adr a)
  | ty (n : String) : Den K H (.ty n) (.ty n)
  | lst {a : Addr} {vs : List V} {ds : List D} : H a = some (.lst vs) → Dens K H vs ds → Den K H (.ref a) (.lst ds)
  | tup {a : Addr} {vs : List V} {ds : List D} : H a = some (.tup vs) → Dens K H vs ds → Den K H (.ref a) (.tup ds)
  | lstK {a : Addr} {vs : List V} {ds : List D} : SqL K H a vs → Dens K H vs ds → Den K H (.ref a) (.lstK ds)
  | tupK {a : Addr} {vs : List V} {ds : List D} : SqT K H a vs → Dens K H vs ds → Den K H (.ref a) (.tupK ds)
  | obj {a C dx : Addr} {fs : List (Str × V)} {gs : List (Str × D)} : H a = some (.ins C dx fs) → DenF K H fs gs → Den K H (.ref a) (.obj C gs)
  | dct {a : Addr} {kvs : List (Key × V)} {ds : List (Key × D)} : H a = some (.dK kvs) → DenK K H kvs ds → Den K H (.ref a) (.dct ds)
inductive Dens (K : PySem.W.Frag) (H : Hp) : List V → List D → Prop
  | nil : Dens K H [] []
  | cons {v : V} {d : D} {vs : List V} {ds : List D} : Den K H v d → Dens K H vs ds → Dens K H (v :: vs) (d :: ds)
inductive DenF (K : PySem.W.Frag) (H : Hp) : List (Str × V) → List (Str × D) → Prop
  | nil : DenF K H [] []
  | cons {x : Str} {v : V} {d : D} {vs : List (Str × V)} {ds : List (Str × D)} : Den K H v d → DenF K H vs ds → DenF K H ((x, v) :: vs) ((x, d) :: ds)
inductive DenK (K : PySem.W.Frag) (H : Hp) : List (Key × V) → List (Key × D) → Prop
  | nil : DenK K H [] []
  | cons {x : Key} {v : V} {d : D} {vs : List (Key × V)} {ds : List (Key × D)} : Den K H v d → DenK K H vs ds → DenK K H ((x, v) :: vs) ((x, d) :: ds)
end

section
variable {K : PySem.W.Frag} {H H' : Hp}
theorem Den.mono (e : Ex H H') {v : V} {d : D} (h : Den K H v d) : Den K H' v d :=
  Den.rec (motive_1 := fun v d _ => Den K H' v d) (motive_2 := fun v d _ => Dens K H' v d) (motive_3 := fun v d _ => DenF K H' v d) (motive_4 := fun v d _ => DenK K H' v d)
    .non .bl .int .str .adr .ty (fun q _ r => .lst (e _ _ q) r) (fun q _ r => .tup (e _ _ q) r) (fun q _ r => .lstK (ex_l e q) r) (fun q _ r => .tupK (ex_t e q) r) (fun q _ r => .obj (e _ _ q) r) (fun q _ r => .dct (e _ _ q) r)
    .nil (fun _ _ a b => .cons a b) .nil (fun _ _ a b => .cons a b) .nil (fun _ _ a b => .cons a b) h
theorem Dens.mono (e : Ex H H') : ∀ {vs : List V} {ds : List D}, Dens K H vs ds → Dens K H' vs ds
  | _, _, .nil => .nil
  | _, _, .cons a b => .cons (a.mono e) (Dens.mono e b)
theorem DenF.mono (e : Ex H H') : ∀ {vs : List (Str × V)} {ds : List (Str × D)}, DenF K H vs ds → DenF K H' vs ds
  | _, _, .nil => .nil
  | _, _, .cons a b => .cons (a.mono e) (DenF.mono e b)
theorem DenK.mono (e : Ex H H') : ∀ {vs : List (Key × V)} {ds : List (Key × D)}, DenK K H vs ds → DenK K H' vs ds
  | _, _, .nil => .nil
  | _, _, .cons a b => .cons (a.mono e) (DenK.mono e b)
theorem Dens.length : ∀ {vs : List V} {ds : List D}, Dens K H vs ds → vs.length = ds.length
  | _, _, .nil => rfl
  | _, _, .cons _ b => congrArg (· + 1) (Dens.length b)
theorem DenF.length : ∀ {vs : List (Str × V)} {ds : List (Str × D)}, DenF K H vs ds → vs.length = ds.length
  | _, _, .nil => rfl
  | _, _, .cons _ b => congrArg (· + 1) (DenF.length b)
theorem DenK.length : ∀ {vs : List (Key × V)} {ds : List (Key × D)}, DenK K H vs ds → vs.length = ds.length
  | _, _, .nil => rfl
  | _, _, .cons _ b => congrArg (· + 1) (DenK.length b)
theorem Dens.get : ∀ {vs : List V} {ds : List D} {i : Nat} {d : D}, Dens K H vs ds → ds[i]? = some d → ∃ v, vs[i]? = some v ∧ Den K H v d
  | _, _, _, _, .nil, e => by simp at e
  | _, _, 0, _, .cons a _, e => by simp at e; subst e; exact ⟨_, rfl, a⟩
  | _, _, i + 1, d, .cons _ b, e => by
    obtain ⟨u, h1, h2⟩ := Dens.get (i := i) (d := d) b (by simpa using e)
    exact ⟨u, by simpa using h1, h2⟩
theorem Dens.get' : ∀ {vs : List V} {ds : List D} {i : Nat} {v : V}, Dens K H vs ds → vs[i]? = some v → ∃ d, ds[i]? = some d ∧ Den K H v d
  | _, _, _, _, .nil, e => by simp at e
  | _, _, 0, _, .cons a _, e => by simp at e; subst e; exact ⟨_, rfl, a⟩
  | _, _, i + 1, d, .cons _ b, e => by
    obtain ⟨u, h1, h2⟩ := Dens.get' (i := i) (v := d) b (by simpa using e)
    exact ⟨u, by simpa using h1, h2⟩
theorem Dens.append : ∀ {vs ws : List V} {ds es : List D}, Dens K H vs ds → Dens K H ws es → Dens K H (vs ++ ws) (ds ++ es)
  | _, _, _, _, .nil, q => q
  | _, _, _, _, .cons a b, q => .cons a (Dens.append b q)
theorem Dens.set : ∀ {vs : List V} {ds : List D} {v : V} {d : D} (i : Nat), Dens K H vs ds → Den K H v d → Dens K H (vs.set i v) (ds.set i d)
  | _, _, _, _, _, .nil, _ => .nil
  | _, _, _, _, 0, .cons _ b, q => .cons q b
  | _, _, _, _, i + 1, .cons a b, q => .cons a (Dens.set i b q)
theorem Dens.take : ∀ {vs : List V} {ds : List D} (i : Nat), Dens K H vs ds → Dens K H (vs.take i) (ds.take i)
  | _, _, 0, _ => .nil
  | _, _, _ + 1, .nil => .nil
  | _, _, i + 1, .cons a b => .cons a (Dens.take i b)
theorem Dens.drop : ∀ {vs : List V} {ds : List D} (i : Nat), Dens K H vs ds → Dens K H (vs.drop i) (ds.drop i)
  | _, _, 0, h => h
  | _, _, _ + 1, .nil => .nil
  | _, _, i + 1, .cons _ b => Dens.drop i b
theorem Dens.rev : ∀ {vs : List V} {ds : List D}, Dens K H vs ds → Dens K H vs.reverse ds.reverse
  | _, _, .nil => .nil
  | _, _, .cons a b => by
    rw [List.reverse_cons, List.reverse_cons]
    exact Dens.append (Dens.rev b) (.cons a .nil)
theorem DenF.look : ∀ {vs : List (Str × V)} {ds : List (Str × D)} {x : Str} {d : D}, DenF K H vs ds → ds.lookup x = some d → ∃ v, vs.lookup x = some v ∧ Den K H v d
  | _, _, _, _, .nil, e => by simp at e
  | _, _, y, d, @DenF.cons _ _ x v d0 vs ds a b, e => by
    rw [List.lookup_cons] at e ⊢
    cases h : (y == x) with
    | true =>
      rw [h] at e
      cases e
      exact ⟨v, rfl, a⟩
    | false =>
      rw [h] at e
      exact DenF.look b e
theorem DenF.nolook : ∀ {vs : List (Str × V)} {ds : List (Str × D)} {x : Str}, DenF K H vs ds → ds.lookup x = none → vs.lookup x = none
  | _, _, _, .nil, _ => rfl
  | _, _, y, @DenF.cons _ _ x v d0 vs ds a b, e => by
    rw [List.lookup_cons] at e ⊢
    cases h : (y == x) with
    | true =>
      rw [h] at e
      cases e
    | false =>
      rw [h] at e
      exact DenF.nolook b e
theorem Den.seqL {v : V} {ds : List D} (h : Den K H v (.lst ds) ∨ Den K H v (.lstK ds)) : ∃ a vs, v = .ref a ∧ SqL K H a vs ∧ Dens K H vs ds := by
  rcases h with h | h
  · cases h with | lst q r => exact ⟨_, _, rfl, .inl (.inl q), r⟩
  · cases h with | lstK q r => exact ⟨_, _, rfl, q, r⟩
theorem Den.seqT {v : V} {ds : List D} (h : Den K H v (.tup ds) ∨ Den K H v (.tupK ds)) : ∃ a vs, v = .ref a ∧ SqT K H a vs ∧ Dens K H vs ds := by
  rcases h with h | h
  · cases h with | tup q r => exact ⟨_, _, rfl, .inl (.inl q), r⟩
  · cases h with | tupK q r => exact ⟨_, _, rfl, q, r⟩
def putD (f : Str) (v : D) : List (Str × D) → List (Str × D)
  | [] => [(f, v)]
  | (g, x) :: r => if g = f then (g, v) :: r else (g, x) :: putD f v r
theorem DenF.put {f : Str} {v : V} {d : D} (h : Den K H v d) : ∀ {vs : List (Str × V)} {ds : List (Str × D)}, DenF K H vs ds → DenF K H (putF f v vs) (putD f d ds)
  | _, _, .nil => .cons h .nil
  | _, _, @DenF.cons _ _ x v0 d0 vs ds a b => by
    show DenF K H (if x = f then (x, v) :: vs else (x, v0) :: putF f v vs) (if x = f then (x, d) :: ds else (x, d0) :: putD f d ds)
    by_cases q : x = f
    · rw [if_pos q, if_pos q]
      exact .cons h b
    · rw [if_neg q, if_neg q]
      exact .cons a (DenF.put h b)
end

/-! ### slots and results: data, or an object that is owned -/
inductive Sl where
  | non | val (d : D) | own (d : D)
abbrev Rho := List Sl
inductive Res where
  | val (d : D) | own (d : D)
abbrev Res.sl : Res → Sl
  | .val d => .val d
  | .own d => .own d

/-- at a stands an object whose content denotes d, a itself is not of the still heap -/
def OwnAt (K : PySem.W.Frag) (Hs H : Hp) (a : Addr) : D → Prop
  | .lst ds => ∃ vs, H a = some (.lst vs) ∧ Dens K Hs vs ds
  | .obj C gs => ∃ dx fs, H a = some (.ins C dx fs) ∧ DenF K Hs fs gs
  | .dct ds => ∃ kvs, H a = some (.dK kvs) ∧ DenK K Hs kvs ds
  | _ => False
section
variable {K : PySem.W.Frag} {Hs Hs' H H' : Hp} {a : Addr} {d : D}
theorem OwnAt.mono (h : OwnAt K Hs H a d) (e : Ex Hs Hs') (q : ∀ o, H a = some o → H' a = some o) : OwnAt K Hs' H' a d := by
  cases d with
  | lst ds => obtain ⟨vs, h1, h2⟩ := h; exact ⟨vs, q _ h1, h2.mono e⟩
  | obj C gs => obtain ⟨dx, fs, h1, h2⟩ := h; exact ⟨dx, fs, q _ h1, h2.mono e⟩
  | dct ds => obtain ⟨vs, h1, h2⟩ := h; exact ⟨vs, q _ h1, h2.mono e⟩
  | _ => exact False.elim h
theorem OwnAt.there (h : OwnAt K Hs H a d) : ∃ o, H a = some o := by
  cases d with
  | lst ds => obtain ⟨vs, h1, h2⟩ := h; exact ⟨_, h1⟩
  | obj C gs => obtain ⟨dx, fs, h1, h2⟩ := h; exact ⟨_, h1⟩
  | dct ds => obtain ⟨vs, h1, h2⟩ := h; exact ⟨_, h1⟩
  | _ => exact False.elim h
/-- what is owned may be stilled -/
theorem OwnAt.still (h : OwnAt K Hs H a d) (n : Hs a = none) (e : Ex Hs H) : ∃ o, H a = some o ∧ Ex Hs (upd Hs a o) ∧ Ex (upd Hs a o) H ∧ Den K (upd Hs a o) (.ref a) d := by
  have up : ∀ o, H a = some o → Ex (upd Hs a o) H := fun o q b u z => by
    by_cases hb : b = a
    · subst hb
      rw [upd_same] at z
      cases z
      exact q
    · rw [upd_ne hb] at z
      exact e b u z
  cases d with
  | lst ds => obtain ⟨vs, h1, h2⟩ := h; exact ⟨_, h1, Ex.new n, up _ h1, .lst upd_same (h2.mono (Ex.new n))⟩
  | obj C gs => obtain ⟨dx, fs, h1, h2⟩ := h; exact ⟨_, h1, Ex.new n, up _ h1, .obj upd_same (h2.mono (Ex.new n))⟩
  | dct ds => obtain ⟨vs, h1, h2⟩ := h; exact ⟨_, h1, Ex.new n, up _ h1, .dct upd_same (h2.mono (Ex.new n))⟩
  | _ => exact False.elim h
end

/-- Hs' is Hs and more, none of it of the frame -/
structure ExF (Hf Hs Hs' : Hp) : Prop where
  ex : Ex Hs Hs'
  nw : ∀ a o, Hf a = some o → Hs a = none → Hs' a = none
theorem ExF.refl {Hf Hs : Hp} : ExF Hf Hs Hs := ⟨Ex.refl _, fun _ _ _ h => h⟩
theorem ExF.trans {Hf H1 H2 H3 : Hp} (a : ExF Hf H1 H2) (b : ExF Hf H2 H3) : ExF Hf H1 H3 := ⟨a.ex.trans b.ex, fun x o h n => b.nw x o h (a.nw x o h n)⟩
theorem ExF.less {Hf Hg H1 H2 : Hp} (a : ExF Hg H1 H2) (e : Ex Hf Hg) : ExF Hf H1 H2 := ⟨a.ex, fun x o h n => a.nw x o (e x o h) n⟩

structure EnvOk (K : PySem.W.Frag) (io : Option Addr) (ρ : Rho) (σ : L2.St) (Hf Hs H : Hp) : Prop where
  fr : Ex Hf H
  st : Ex Hs H
  len : ρ.length = σ.length
  val : ∀ (i : Nat) (d : D), ρ[i]? = some (.val d) → ∃ v, σ[i]? = some (some v) ∧ Den K Hs v d
  own : ∀ (i : Nat) (d : D), ρ[i]? = some (.own d) → ∃ a, σ[i]? = some (some (.ref a)) ∧ OwnAt K Hs H a d ∧ Hs a = none ∧ Hf a = none
  sep : ∀ (i j : Nat) (d e : D) (a : Addr), ρ[i]? = some (.own d) → ρ[j]? = some (.own e) → σ[i]? = some (some (.ref a)) → σ[j]? = some (some (.ref a)) → i = j
  io : ∀ a, io = some a → σ[0]? = some (some (.ref a))

/-- no slot owns what stands at p -/
def NoOwn (ρ : Rho) (σ : L2.St) (p : Addr) : Prop := ∀ (i : Nat) (e : D), ρ[i]? = some (.own e) → σ[i]? ≠ some (some (.ref p))
def ResOk (K : PySem.W.Frag) (ρ : Rho) (σ : L2.St) (Hf Hs H : Hp) (v : V) : Res → Prop
  | .val d => Den K Hs v d
  | .own d => ∃ p, v = .ref p ∧ OwnAt K Hs H p d ∧ Hs p = none ∧ Hf p = none ∧ NoOwn ρ σ p

section
variable {K : PySem.W.Frag} {io : Option Addr} {ρ : Rho} {σ : L2.St} {Hf Hs H Hs' H' Hg : Hp}
theorem EnvOk.noOwn (E : EnvOk K io ρ σ Hf Hs H) {p : Addr} (n : H p = none) : NoOwn ρ σ p := fun i e h q => by
  obtain ⟨a, h1, h2, _⟩ := E.own i e h
  rw [h1] at q
  cases q
  obtain ⟨o, z⟩ := h2.there
  rw [n] at z
  cases z
/-- the heap has grown, nothing that stood has changed -/
theorem EnvOk.grow (E : EnvOk K io ρ σ Hf Hs H) (e : Ex H H') (s : Ex Hs Hs') (t : Ex Hs' H') (n : ∀ a o, H a = some o → Hs a = none → Hs' a = none) : EnvOk K io ρ σ Hf Hs' H' :=
  ⟨E.fr.trans e, t, E.len, fun i d h => by
    obtain ⟨v, h1, h2⟩ := E.val i d h
    exact ⟨v, h1, h2.mono s⟩, fun i d h => by
    obtain ⟨a, h1, h2, h3, h4⟩ := E.own i d h
    obtain ⟨o, z⟩ := h2.there
    exact ⟨a, h1, h2.mono s fun o => e a o, n a o z h3, h4⟩, E.sep, E.io⟩
theorem EnvOk.growF (E : EnvOk K io ρ σ Hf Hs H) (s : Ex Hs Hs') (n : ∀ a o, H a = some o → Hs a = none → Hs' a = none) : ExF Hf Hs Hs' :=
  ⟨s, fun a o h z => n a o (E.fr a o h) z⟩
/-- a smaller frame -/
theorem EnvOk.less (E : EnvOk K io ρ σ Hg Hs H) (e : Ex Hf Hg) : EnvOk K io ρ σ Hf Hs H :=
  ⟨e.trans E.fr, E.st, E.len, E.val, fun i d h => by
    obtain ⟨a, h1, h2, h3, h4⟩ := E.own i d h
    exact ⟨a, h1, h2, h3, e.none h4⟩, E.sep, E.io⟩
/-- the greatest frame: all but what the slots own -/
noncomputable def mxf (ρ : Rho) (σ : L2.St) (H : Hp) : Hp := fun a => open Classical in if NoOwn ρ σ a then H a else none
theorem mxf_some {a : Addr} {o : HO} (h : mxf ρ σ H a = some o) : H a = some o ∧ NoOwn ρ σ a := by
  unfold mxf at h
  by_cases n : NoOwn ρ σ a
  · rw [if_pos n] at h; exact ⟨h, n⟩
  · rw [if_neg n] at h; cases h
theorem mxf_of {a : Addr} {o : HO} (h : H a = some o) (n : NoOwn ρ σ a) : mxf ρ σ H a = some o := by
  unfold mxf
  rw [if_pos n]
  exact h
theorem mxf_own {i : Nat} {d : D} {a : Addr} (h : ρ[i]? = some (.own d)) (q : σ[i]? = some (some (.ref a))) : mxf ρ σ H a = none := by
  unfold mxf
  rw [if_neg fun n => n i d h q]
theorem EnvOk.more (E : EnvOk K io ρ σ Hf Hs H) : EnvOk K io ρ σ (mxf ρ σ H) Hs H ∧ Ex Hf (mxf ρ σ H) ∧ Ex Hs (mxf ρ σ H) := by
  have no : ∀ (a : Addr) (X : Hp), (∀ (i : Nat) (d : D), ρ[i]? = some (Sl.own d) → σ[i]? = some (some (V.ref a)) → X a = none) → (∃ o, X a = some o) → NoOwn ρ σ a := fun a X h ⟨o, z⟩ i d q r => by
    rw [h i d q r] at z
    cases z
  refine ⟨⟨fun a o h => (mxf_some (ρ := ρ) (σ := σ) (H := H) h).1, E.st, E.len, E.val, fun i d h => ?_, E.sep, E.io⟩, fun a o h => mxf_of (E.fr a o h) (no a Hf (fun i d q r => ?_) ⟨o, h⟩), fun a o h => mxf_of (E.st a o h) (no a Hs (fun i d q r => ?_) ⟨o, h⟩)⟩
  · obtain ⟨a, h1, h2, h3, h4⟩ := E.own i d h
    exact ⟨a, h1, h2, h3, mxf_own h h1⟩
  · obtain ⟨b, h1, h2, h3, h4⟩ := E.own i d q
    rw [h1] at r
    cases r
    exact h4
  · obtain ⟨b, h1, h2, h3, h4⟩ := E.own i d q
    rw [h1] at r
    cases r
    exact h3
theorem get_set_ne {α : Type} {l : List α} {i j : Nat} {x : α} (h : i ≠ j) : (l.set i x)[j]? = l[j]? := List.getElem?_set_ne h
/-- a slot is stored -/
theorem EnvOk.setv (E : EnvOk K io ρ σ Hf Hs H) {i : Nat} {v : V} {d : D} (hd : Den K Hs v d) (hio : i ≠ 0 ∨ io = none) : EnvOk K io (ρ.set i (.val d)) (σ.set i (some v)) Hf Hs H := by
  have ne : ∀ j (d' : D) , (ρ.set i (.val d))[j]? = some (.own d') → i ≠ j := fun j d' h z => by
    subst z
    by_cases hl : i < ρ.length
    · rw [List.getElem?_set_self hl] at h
      cases h
    · rw [List.getElem?_eq_none (by rw [List.length_set]; omega)] at h
      cases h
  refine ⟨E.fr, E.st, by rw [List.length_set, List.length_set]; exact E.len, fun j d' h => ?_, fun j d' h => ?_, fun j k d' e a h1 h2 h3 h4 => ?_, fun a h => ?_⟩
  · by_cases hj : i = j
    · subst hj
      by_cases hl : i < ρ.length
      · rw [List.getElem?_set_self hl] at h
        cases h
        exact ⟨v, List.getElem?_set_self (by rw [← E.len]; exact hl), hd⟩
      · rw [List.getElem?_eq_none (by rw [List.length_set]; omega)] at h
        cases h
    · rw [get_set_ne hj] at h ⊢
      exact E.val j d' h
  · have hj := ne j d' h
    rw [get_set_ne hj] at h ⊢
    exact E.own j d' h
  · have hj := ne j d' h1
    have hk := ne k e h2
    rw [get_set_ne hj] at h1 h3
    rw [get_set_ne hk] at h2 h4
    exact E.sep j k d' e a h1 h2 h3 h4
  · rcases hio with z | z
    · rw [get_set_ne z]
      exact E.io a h
    · rw [z] at h
      cases h
theorem EnvOk.seto (E : EnvOk K io ρ σ Hf Hs H) {i : Nat} {p : Addr} {d : D} (h1 : OwnAt K Hs H p d) (h2 : Hs p = none) (h3 : Hf p = none) (h4 : NoOwn ρ σ p) (hio : i ≠ 0 ∨ io = none) :
    EnvOk K io (ρ.set i (.own d)) (σ.set i (some (.ref p))) Hf Hs H := by
  have self : ∀ {x : Sl} {y : Option V}, (ρ.set i x)[i]? = some x ∧ (σ.set i y)[i]? = some y ∨ (ρ.set i x)[i]? = none := fun {x y} => by
    by_cases hl : i < ρ.length
    · exact .inl ⟨List.getElem?_set_self hl, List.getElem?_set_self (by rw [← E.len]; exact hl)⟩
    · exact .inr (List.getElem?_eq_none (by rw [List.length_set]; omega))
  refine ⟨E.fr, E.st, by rw [List.length_set, List.length_set]; exact E.len, fun j d' h => ?_, fun j d' h => ?_, fun j k d' e a q1 q2 q3 q4 => ?_, fun a h => ?_⟩
  · by_cases hj : i = j
    · subst hj
      rcases self (x := .own d) (y := some (V.ref p)) with ⟨z, _⟩ | z
      · rw [z] at h; cases h
      · rw [z] at h; cases h
    · rw [get_set_ne hj] at h ⊢
      exact E.val j d' h
  · by_cases hj : i = j
    · subst hj
      rcases self (x := .own d) (y := some (V.ref p)) with ⟨z, z2⟩ | z
      · rw [z] at h; cases h
        exact ⟨p, z2, h1, h2, h3⟩
      · rw [z] at h; cases h
    · rw [get_set_ne hj] at h ⊢
      exact E.own j d' h
  · by_cases hj : i = j
    · by_cases hk : i = k
      · rw [← hj, ← hk]
      · subst hj
        rcases self (x := .own d) (y := some (V.ref p)) with ⟨z, z2⟩ | z
        · rw [z2] at q3; cases q3
          rw [get_set_ne hk] at q2 q4
          exact absurd q4 (h4 k e q2)
        · rw [z] at q1; cases q1
    · by_cases hk : i = k
      · subst hk
        rcases self (x := .own d) (y := some (V.ref p)) with ⟨z, z2⟩ | z
        · rw [z2] at q4; cases q4
          rw [get_set_ne hj] at q1 q3
          exact absurd q3 (h4 j d' q1)
        · rw [z] at q2; cases q2
      · rw [get_set_ne hj] at q1 q3
        rw [get_set_ne hk] at q2 q4
        exact E.sep j k d' e a q1 q2 q3 q4
  · rcases hio with z | z
    · rw [get_set_ne z]
      exact E.io a h
    · rw [z] at h
      cases h
theorem EnvOk.setr (E : EnvOk K io ρ σ Hf Hs H) {i : Nat} {v : V} {r : Res} (h : ResOk K ρ σ Hf Hs H v r) (hio : i ≠ 0 ∨ io = none) : EnvOk K io (ρ.set i r.sl) (σ.set i (some v)) Hf Hs H := by
  cases r with
  | val d => exact E.setv h hio
  | own d =>
    obtain ⟨p, rfl, h1, h2, h3, h4⟩ := h
    exact E.seto h1 h2 h3 h4 hio
/-- a slot is forgotten (the value stands still) -/
theorem EnvOk.drop (E : EnvOk K io ρ σ Hf Hs H) (i : Nat) : EnvOk K io (ρ.set i .non) σ Hf Hs H := by
  have ne : ∀ j (d' : Sl), (ρ.set i .non)[j]? = some d' → d' ≠ .non → i ≠ j := fun j d' h q z => by
    subst z
    by_cases hl : i < ρ.length
    · rw [List.getElem?_set_self hl] at h
      cases h
      exact q rfl
    · rw [List.getElem?_eq_none (by rw [List.length_set]; omega)] at h
      cases h
  refine ⟨E.fr, E.st, by rw [List.length_set]; exact E.len, fun j d' h => ?_, fun j d' h => ?_, fun j k d' e a h1 h2 h3 h4 => ?_, E.io⟩
  · have hj := ne j _ h (by intro z; cases z)
    rw [get_set_ne hj] at h
    exact E.val j d' h
  · have hj := ne j _ h (by intro z; cases z)
    rw [get_set_ne hj] at h
    exact E.own j d' h
  · have hj := ne j _ h1 (by intro z; cases z)
    have hk := ne k _ h2 (by intro z; cases z)
    rw [get_set_ne hj] at h1
    rw [get_set_ne hk] at h2
    exact E.sep j k d' e a h1 h2 h3 h4
/-- what is owned is changed -/
theorem EnvOk.change (E : EnvOk K io ρ σ Hf Hs H) {i : Nat} {a : Addr} {d0 d : D} {o : HO} (h0 : ρ[i]? = some (.own d0)) (ha : σ[i]? = some (some (.ref a))) (h : OwnAt K Hs (upd H a o) a d) : EnvOk K io (ρ.set i (.own d)) σ Hf Hs (upd H a o) := by
  obtain ⟨b, h1, h2, h3, h4⟩ := E.own i d0 h0
  rw [ha] at h1
  cases h1
  have hl : i < ρ.length := (List.getElem?_eq_some_iff.mp h0).1
  have out : ∀ (X : Hp), X a = none → Ex X H → Ex X (upd H a o) := fun X n e b u z => by
    rw [upd_ne (ne_of_none z n)]
    exact e b u z
  refine ⟨out _ h4 E.fr, out _ h3 E.st, by rw [List.length_set]; exact E.len, fun j d' q => ?_, fun j d' q => ?_, fun j k d' e b q1 q2 q3 q4 => ?_, E.io⟩
  · by_cases hj : i = j
    · subst hj
      rw [List.getElem?_set_self hl] at q
      cases q
    · rw [get_set_ne hj] at q
      exact E.val j d' q
  · by_cases hj : i = j
    · subst hj
      rw [List.getElem?_set_self hl] at q
      cases q
      exact ⟨a, ha, h, h3, h4⟩
    · rw [get_set_ne hj] at q
      obtain ⟨b, g1, g2, g3, g4⟩ := E.own j d' q
      have nb : b ≠ a := fun z => by
        subst z
        exact hj (E.sep i j d0 d' b h0 q ha g1)
      exact ⟨b, g1, g2.mono (Ex.refl _) fun o z => by rw [upd_ne nb]; exact z, g3, g4⟩
  · have back : ∀ (m : Nat) (dd : D), (ρ.set i (Sl.own d))[m]? = some (Sl.own dd) → ∃ d1, ρ[m]? = some (Sl.own d1) := fun m dd q => by
      by_cases hm : i = m
      · subst hm; exact ⟨d0, h0⟩
      · rw [get_set_ne hm] at q; exact ⟨dd, q⟩
    obtain ⟨d1, z1⟩ := back j d' q1
    obtain ⟨d2, z2⟩ := back k e q2
    exact E.sep j k d1 d2 b z1 z2 q3 q4
/-- an owned slot is stilled -/
theorem EnvOk.still (E : EnvOk K io ρ σ Hf Hs H) {i : Nat} {d : D} (h0 : ρ[i]? = some (.own d)) : ∃ Hs', ExF Hf Hs Hs' ∧ EnvOk K io (ρ.set i (.val d)) σ Hf Hs' H := by
  obtain ⟨a, h1, h2, h3, h4⟩ := E.own i d h0
  obtain ⟨o, g1, g2, g3, g4⟩ := h2.still h3 E.st
  have hl : i < ρ.length := (List.getElem?_eq_some_iff.mp h0).1
  refine ⟨upd Hs a o, ⟨g2, fun b u q n => ?_⟩, ⟨E.fr, g3, by rw [List.length_set]; exact E.len, fun j d' q => ?_, fun j d' q => ?_, fun j k d' e b q1 q2 q3 q4 => ?_, E.io⟩⟩
  · rw [upd_ne (ne_of_none q h4)]
    exact n
  · by_cases hj : i = j
    · subst hj
      rw [List.getElem?_set_self hl] at q
      cases q
      exact ⟨_, h1, g4⟩
    · rw [get_set_ne hj] at q
      obtain ⟨v, z1, z2⟩ := E.val j d' q
      exact ⟨v, z1, z2.mono g2⟩
  · by_cases hj : i = j
    · subst hj
      rw [List.getElem?_set_self hl] at q
      cases q
    · rw [get_set_ne hj] at q
      obtain ⟨b, z1, z2, z3, z4⟩ := E.own j d' q
      have nb : b ≠ a := fun z => by
        subst z
        exact hj (E.sep i j d d' b h0 q h1 z1)
      exact ⟨b, z1, z2.mono g2 fun _ z => z, by rw [upd_ne nb]; exact z3, z4⟩
  · have back : ∀ (m : Nat) (dd : D), (ρ.set i (Sl.val d))[m]? = some (Sl.own dd) → ρ[m]? = some (Sl.own dd) := fun m dd q => by
      by_cases hm : i = m
      · subst hm
        rw [List.getElem?_set_self hl] at q
        cases q
      · rw [get_set_ne hm] at q; exact q
    exact E.sep j k d' e b (back _ _ q1) (back _ _ q2) q3 q4
/-- a result that is owned is stilled -/
theorem ResOk.still (E : EnvOk K io ρ σ Hf Hs H) {v : V} {d : D} (h : ResOk K ρ σ Hf Hs H v (.own d)) : ∃ Hs', ExF Hf Hs Hs' ∧ EnvOk K io ρ σ Hf Hs' H ∧ Den K Hs' v d := by
  obtain ⟨p, rfl, h1, h2, h3, h4⟩ := h
  obtain ⟨o, g1, g2, g3, g4⟩ := h1.still h2 E.st
  refine ⟨upd Hs p o, ⟨g2, fun b u q n => ?_⟩, ⟨E.fr, g3, E.len, fun j d' q => ?_, fun j d' q => ?_, E.sep, E.io⟩, g4⟩
  · rw [upd_ne (ne_of_none q h3)]
    exact n
  · obtain ⟨v, z1, z2⟩ := E.val j d' q
    exact ⟨v, z1, z2.mono g2⟩
  · obtain ⟨b, z1, z2, z3, z4⟩ := E.own j d' q
    have nb : b ≠ p := fun z => h4 j d' q (z ▸ z1)
    exact ⟨b, z1, z2.mono g2 fun _ z => z, by rw [upd_ne nb]; exact z3, z4⟩
end

/-! ### the judgements: an expression, a list of them, a test, a statement -/
def rdE (K : PySem.W.Frag) (ρ : Rho) (r : Res) (ρ' : Rho) : TE := fun σ H Q => ∃ io Hf Hs, EnvOk K io ρ σ Hf Hs H ∧
  ∀ v Hs' H', EnvOk K io ρ' σ Hf Hs' H' → ExF Hf Hs Hs' → ResOk K ρ' σ Hf Hs' H' v r → Q v H'
def rdA (K : PySem.W.Frag) (ρ : Rho) (ds : List D) (ρ' : Rho) : TA := fun σ H Q => ∃ io Hf Hs, EnvOk K io ρ σ Hf Hs H ∧
  ∀ vs Hs' H', EnvOk K io ρ' σ Hf Hs' H' → ExF Hf Hs Hs' → Dens K Hs' vs ds → Q vs H'
def rdT (K : PySem.W.Frag) (ρ : Rho) (b : Bool) (ρ' : Rho) : TT := fun σ H Q => ∃ io Hf Hs, EnvOk K io ρ σ Hf Hs H ∧
  ∀ Hs' H', EnvOk K io ρ' σ Hf Hs' H' → ExF Hf Hs Hs' → Q b H'
def PD (X : Cx) (e : Expr) (ρ : Rho) (r : Res) (ρ' : Rho) : Prop := PE X e (rdE X.K ρ r ρ')
def PAD (X : Cx) (es : List Expr) (ρ : Rho) (ds : List D) (ρ' : Rho) : Prop := PA X es (rdA X.K ρ ds ρ')
def PTD (X : Cx) (e : Expr) (ρ : Rho) (b : Bool) (ρ' : Rho) : Prop := PT X e (rdT X.K ρ b ρ')
/-- what follows a statement -/
structure Kn where
  nx : Rho → Prop
  rt : Res → Rho → Prop
  bk : Rho → Prop := fun _ => False
  ct : Rho → Prop := fun _ => False
structure KnOk (K : PySem.W.Frag) (io : Option Addr) (Hf Hs : Hp) (k : Kn) (Z : Ends) : Prop where
  nx : ∀ ρ' σ' Hs' H', k.nx ρ' → EnvOk K io ρ' σ' Hf Hs' H' → ExF Hf Hs Hs' → Z.nx σ' H'
  rt : ∀ r ρ' v σ' Hs' H', k.rt r ρ' → EnvOk K io ρ' σ' Hf Hs' H' → ExF Hf Hs Hs' → ResOk K ρ' σ' Hf Hs' H' v r → Z.rt v H'
  bk : ∀ ρ' σ' Hs' H', k.bk ρ' → EnvOk K io ρ' σ' Hf Hs' H' → ExF Hf Hs Hs' → Z.bk σ' H'
  ct : ∀ ρ' σ' Hs' H', k.ct ρ' → EnvOk K io ρ' σ' Hf Hs' H' → ExF Hf Hs Hs' → Z.ct σ' H'
theorem KnOk.later {K : PySem.W.Frag} {io : Option Addr} {Hf Hs Hs' : Hp} {k : Kn} {Z : Ends} (h : KnOk K io Hf Hs k Z) (e : ExF Hf Hs Hs') : KnOk K io Hf Hs' k Z :=
  ⟨fun ρ' σ' H1 H2 q E f => h.nx ρ' σ' H1 H2 q E (e.trans f), fun r ρ' v σ' H1 H2 q E f z => h.rt r ρ' v σ' H1 H2 q E (e.trans f) z, fun ρ' σ' H1 H2 q E f => h.bk ρ' σ' H1 H2 q E (e.trans f), fun ρ' σ' H1 H2 q E f => h.ct ρ' σ' H1 H2 q E (e.trans f)⟩
def rdS (K : PySem.W.Frag) (b : Bool) (ρ : Rho) (k : Kn) : TS := fun Z σ H => ∃ io Hf Hs, (b = false → io = none) ∧ EnvOk K io ρ σ Hf Hs H ∧ KnOk K io Hf Hs k Z
def PSD (X : Cx) (b : Bool) (ss : List Stmt) (ρ : Rho) (k : Kn) : Prop := PSs X ss (rdS X.K b ρ k)
def PS1 (X : Cx) (b : Bool) (st : Stmt) (ρ : Rho) (k : Kn) : Prop := PS X st (rdS X.K b ρ k)

section
variable {X : Cx} {e : Expr} {es : List Expr} {t t' : TE} {ta ta' : TA} {tt tt' : TT} {ts ts' : TS} {st : Stmt} {ss : List Stmt}
theorem pe_imp (h : PE X e t) (i : ∀ σ H Q, t' σ H Q → t σ H Q) : PE X e t' := ⟨fun pins s σ H Q I q => h.run pins s σ H Q I (i σ H Q q)⟩
theorem pa_imp (h : PA X es ta) (i : ∀ σ H Q, ta' σ H Q → ta σ H Q) : PA X es ta' := ⟨fun pos pins s σ H Q I q => h.run pos pins s σ H Q I (i σ H Q q)⟩
theorem pt_imp (h : PT X e tt) (i : ∀ σ H Q, tt' σ H Q → tt σ H Q) : PT X e tt' := ⟨fun pins s σ H Q I q => h.run pins s σ H Q I (i σ H Q q)⟩
theorem ps_imp (h : PS X st ts) (i : ∀ Z σ H, ts' Z σ H → ts Z σ H) : PS X st ts' := ⟨fun pins s σ H Z I q => h.run pins s σ H Z I (i Z σ H q)⟩
theorem pss_imp (h : PSs X ss ts) (i : ∀ Z σ H, ts' Z σ H → ts Z σ H) : PSs X ss ts' := ⟨fun pins s σ H Z I q => h.run pins s σ H Z I (i Z σ H q)⟩
theorem pss_any {α : Type} {tf : α → TS} (h : ∀ a, PSs X ss (tf a)) : PSs X ss (fun Z σ H => ∃ a, tf a Z σ H) := ⟨fun pins s σ H Z I ⟨a, q⟩ => (h a).run pins s σ H Z I q⟩
theorem pe_any {α : Type} {tf : α → TE} (h : ∀ a, PE X e (tf a)) : PE X e (fun σ H Q => ∃ a, tf a σ H Q) := ⟨fun pins s σ H Q I ⟨a, q⟩ => (h a).run pins s σ H Q I q⟩
end
end Dn
end

section
set_option Elab.async false
set_option linter.all false
set_option maxRecDepth 100000
set_option maxHeartbeats 2000000
/-! DRule: rules for expressions and statements over data. -/
namespace Dn
open PySem PySem.Spec L2

/-! ### growth -/
structure Gr (H H' Hs Hs' : Hp) : Prop where
  ex : Ex H H'
  st : Ex Hs' H'
  s : Ex Hs Hs'
  nw : ∀ a o, H a = some o → Hs a = none → Hs' a = none
theorem Gr.refl {H Hs : Hp} (e : Ex Hs H) : Gr H H Hs Hs := ⟨Ex.refl _, e, Ex.refl _, fun _ _ _ h => h⟩
theorem Gr.new {H Hs : Hp} {p : Addr} {o : HO} (e : Ex Hs H) (n : H p = none) : Gr H (upd H p o) Hs (upd Hs p o) :=
  ⟨Ex.new n, e.upd2 (e.none n), Ex.new (e.none n), fun a u h z => by rw [upd_ne (ne_of_none h n)]; exact z⟩
theorem Gr.newo {H Hs : Hp} {p : Addr} {o : HO} (e : Ex Hs H) (n : H p = none) : Gr H (upd H p o) Hs Hs :=
  ⟨Ex.new n, e.trans (Ex.new n), Ex.refl _, fun _ _ _ z => z⟩
theorem Gr.trans {H H1 H2 Hs Hs1 Hs2 : Hp} (a : Gr H H1 Hs Hs1) (b : Gr H1 H2 Hs1 Hs2) : Gr H H2 Hs Hs2 :=
  ⟨a.ex.trans b.ex, b.st, a.s.trans b.s, fun x o h z => b.nw x o (a.ex x o h) (a.nw x o h z)⟩
section
variable {K : PySem.W.Frag} {io : Option Addr} {ρ : Rho} {σ : L2.St} {Hf Hs H Hs' H' : Hp}
theorem EnvOk.gr (E : EnvOk K io ρ σ Hf Hs H) (g : Gr H H' Hs Hs') : EnvOk K io ρ σ Hf Hs' H' ∧ ExF Hf Hs Hs' := ⟨E.grow g.ex g.s g.st g.nw, E.growF g.s g.nw⟩
end
/-- what comes back: data, or a new object -/
def RetOk (K : PySem.W.Frag) (H Hs' H' : Hp) (v : V) : Res → Prop
  | .val d => Den K Hs' v d
  | .own d => ∃ p, v = .ref p ∧ H p = none ∧ Hs' p = none ∧ OwnAt K Hs' H' p d
section
variable {K : PySem.W.Frag} {io : Option Addr} {ρ : Rho} {σ : L2.St} {Hf Hs H Hs' H' : Hp} {v : V} {r : Res}
theorem EnvOk.ret (E : EnvOk K io ρ σ Hf Hs H) (h : RetOk K H Hs' H' v r) : ResOk K ρ σ Hf Hs' H' v r := by
  cases r with
  | val d => exact h
  | own d =>
    obtain ⟨p, rfl, h1, h2, h3⟩ := h
    exact ⟨p, rfl, h3, h2, E.fr.none h1, E.noOwn h1⟩
end

/-! ### names, constants -/
section
variable {X : Cx} {ρ ρ1 ρ2 ρ3 : Rho} {pos : Pos} {a b c e : Expr} {es : List Expr} {r : Res} {d x y z : D}
theorem pd_var (i : Nat) {x : Str} (h : ρ[i]? = some (.val d) := by rfl) (hN : X.N[i]? = some x := by rfl) (hv : Vis X.env.scope x := by first | exact Or.inl rfl | exact Or.inr (Or.inl rfl) | exact Or.inr (Or.inr rfl))
    (hd : (x == ("__debug__" : Str)) = false := by decide) (hcd : (x == ("__classdict__" : Str)) = false := by decide) : PD X (.Name x pos) ρ (.val d) ρ :=
  pe_imp (pe_var hN hv hd hcd) fun σ H Q ⟨io, Hf, Hs, E, k⟩ => by
    obtain ⟨v, h1, h2⟩ := E.val i d h
    exact ⟨v, h1, k v Hs H E ExF.refl h2⟩
/-- an owned slot handed on -/
theorem pd_move (i : Nat) {x : Str} (h : ρ[i]? = some (.own d) := by rfl) (hN : X.N[i]? = some x := by rfl) (hv : Vis X.env.scope x := by first | exact Or.inl rfl | exact Or.inr (Or.inl rfl) | exact Or.inr (Or.inr rfl))
    (hd : (x == ("__debug__" : Str)) = false := by decide) (hcd : (x == ("__classdict__" : Str)) = false := by decide) : PD X (.Name x pos) ρ (.own d) (ρ.set i .non) :=
  pe_imp (pe_var hN hv hd hcd) fun σ H Q ⟨io, Hf, Hs, E, k⟩ => by
    obtain ⟨a, h1, h2, h3, h4⟩ := E.own i d h
    refine ⟨.ref a, h1, k _ Hs H (E.drop i) ExF.refl ⟨a, rfl, h2, h3, h4, fun j e' q z => ?_⟩⟩
    by_cases hj : i = j
    · subst hj
      rw [List.getElem?_set_self (List.getElem?_eq_some_iff.mp h).1] at q
      cases q
    · rw [get_set_ne hj] at q
      exact hj (E.sep i j d e' a h q h1 z)
theorem pd_still (h : PD X e ρ (.own d) ρ1) : PD X e ρ (.val d) ρ1 :=
  pe_imp h fun σ H Q ⟨io, Hf, Hs, E, k⟩ => ⟨io, Hf, Hs, E, fun v Hs' H' E' f q => by
    obtain ⟨Hs2, f2, E2, q2⟩ := ResOk.still E' q
    exact k v Hs2 H' E2 (f.trans f2) q2⟩
theorem pd_int {i : Int} {j : Nat} : PD X (.Constant (.int i) j pos) ρ (.val (.int i)) ρ := pe_imp pe_int fun σ H Q ⟨io, Hf, Hs, E, k⟩ => k _ Hs H E ExF.refl (.int i)
theorem pd_bl {i : Bool} {j : Nat} : PD X (.Constant (.bool i) j pos) ρ (.val (.bl i)) ρ := pe_imp pe_bl fun σ H Q ⟨io, Hf, Hs, E, k⟩ => k _ Hs H E ExF.refl (.bl i)
theorem pd_non {j : Nat} : PD X (.Constant .none j pos) ρ (.val .non) ρ := pe_imp pe_non fun σ H Q ⟨io, Hf, Hs, E, k⟩ => k _ Hs H E ExF.refl .non
theorem pd_str {x : Str} {j : Nat} : PD X (.Constant (.str x) j pos) ρ (.val (.str x)) ρ := pe_imp pe_str fun σ H Q ⟨io, Hf, Hs, E, k⟩ => k _ Hs H E ExF.refl (.str x)
theorem pd_glob {x : Str} {u : Addr} (hm : X.mg x = some (.ref u)) (hg : Gl X x := by rfl) (hd : (x == ("__debug__" : Str)) = false := by decide) : PD X (.Name x pos) ρ (.val (.adr u)) ρ :=
  pe_imp (pe_glob (v := .ref u) hg hm rfl hd) fun σ H Q ⟨io, Hf, Hs, E, k⟩ => k _ Hs H E ExF.refl (.adr u)
theorem pd_globI {x : Str} {i : Int} {t : Tok} (hm : X.mg x = some (.int i t)) (hg : Gl X x := by rfl) (hd : (x == ("__debug__" : Str)) = false := by decide) : PD X (.Name x pos) ρ (.val (.int i)) ρ :=
  pe_imp (pe_glob (v := .int i) hg hm ⟨_, rfl⟩ hd) fun σ H Q ⟨io, Hf, Hs, E, k⟩ => k _ Hs H E ExF.refl (.int i)
theorem pd_ty {x : Str} {n : String} (hm : X.mg x = none) (hv : bootBuiltins x = some (.type n) := by decide +kernel) (hg : Gl X x := by rfl) (hn : x ≠ "__name__" := by decide) (hd : (x == ("__debug__" : Str)) = false := by decide) : PD X (.Name x pos) ρ (.val (.ty n)) ρ :=
  pe_imp (pe_bltn (v := .ty n) hg hm hv rfl hn hd) fun σ H Q ⟨io, Hf, Hs, E, k⟩ => k _ Hs H E ExF.refl (.ty n)

/-! ### operators -/
def rdO (K : PySem.W.Frag) (x y : D) (r : Res) : R2 := fun u v H Q => ∃ Hs, Ex Hs H ∧ Den K Hs u x ∧ Den K Hs v y ∧ ∀ w Hs' H', Gr H H' Hs Hs' → RetOk K H Hs' H' w r → Q w H'
def BinD (X : Cx) (f : Value → Value → Sem Value) (x y : D) (r : Res) : Prop := OpR X f (rdO X.K x y r)
def rdU (K : PySem.W.Frag) (x : D) (r : Res) : V → Hp → VK → Prop := fun u H Q => ∃ Hs, Ex Hs H ∧ Den K Hs u x ∧ ∀ w Hs' H', Gr H H' Hs Hs' → RetOk K H Hs' H' w r → Q w H'
def UnD (X : Cx) (f : Value → Sem Value) (x : D) (r : Res) : Prop := UnR X f (rdU X.K x r)
def rdC (K : PySem.W.Frag) (ds : List D) (r : Res) : List V → Hp → VK → Prop := fun vs H Q => ∃ Hs, Ex Hs H ∧ Dens K Hs vs ds ∧ ∀ w Hs' H', Gr H H' Hs Hs' → RetOk K H Hs' H' w r → Q w H'
def CallD (X : Cx) (f : Value) (ds : List D) (r : Res) : Prop := CallR X f (rdC X.K ds r)
theorem opr_imp {f : Value → Value → Sem Value} {q q' : R2} (h : OpR X f q) (i : ∀ u v H Q, q' u v H Q → q u v H Q) : OpR X f q' := fun pins s σ H x y v u Q I rx ry z => h pins s σ H x y v u Q I rx ry (i _ _ _ _ z)
theorem unr_imp {f : Value → Sem Value} {q q' : V → Hp → VK → Prop} (h : UnR X f q) (i : ∀ u H Q, q' u H Q → q u H Q) : UnR X f q' := fun pins s σ H x v Q I rx z => h pins s σ H x v Q I rx (i _ _ _ z)
theorem callr_imp {f : Value} {q q' : List V → Hp → VK → Prop} (h : CallR X f q) (i : ∀ u H Q, q' u H Q → q u H Q) : CallR X f q' := fun pins s σ H xs us Q I r z => h pins s σ H xs us Q I r (i _ _ _ z)

theorem pd_bin {op : Operator} (ha : PD X a ρ (.val x) ρ1) (hb : PD X b ρ1 (.val y) ρ2) (ho : BinD X (binaryOp op) x y r) : PD X (.BinOp a op b pos) ρ r ρ2 :=
  pe_imp (pe_op ho ha hb) fun σ H Q ⟨io, Hf, Hs, E, k⟩ => ⟨io, Hf, Hs, E, fun u Hs1 H1 E1 f1 d1 => ⟨io, Hf, Hs1, E1, fun v Hs2 H2 E2 f2 d2 => ⟨Hs2, E2.st, Den.mono f2.ex d1, d2, fun w Hs3 H3 g q => by
    obtain ⟨E3, f3⟩ := E2.gr g
    exact k w Hs3 H3 E3 ((f1.trans f2).trans f3) (E2.ret q)⟩⟩⟩
theorem pd_cmp {op : CmpOp} (ha : PD X a ρ (.val x) ρ1) (hb : PD X b ρ1 (.val y) ρ2) (ho : BinD X (compareOp op) x y r) (hm : behindInMarks op b = false) : PD X (.Compare a [op] [b] pos) ρ r ρ2 :=
  pe_imp (pe_cmpR ho ha hb hm) fun σ H Q ⟨io, Hf, Hs, E, k⟩ => ⟨io, Hf, Hs, E, fun u Hs1 H1 E1 f1 d1 => ⟨io, Hf, Hs1, E1, fun v Hs2 H2 E2 f2 d2 => ⟨Hs2, E2.st, Den.mono f2.ex d1, d2, fun w Hs3 H3 g q => by
    obtain ⟨E3, f3⟩ := E2.gr g
    exact k w Hs3 H3 E3 ((f1.trans f2).trans f3) (E2.ret q)⟩⟩⟩
theorem ptd_cmp {op : CmpOp} {k : Bool} (ha : PD X a ρ (.val x) ρ1) (hb : PD X b ρ1 (.val y) ρ2) (ho : BinD X (compareOp op) x y (.val (.bl k))) (hm : behindInMarks op b = false) : PTD X (.Compare a [op] [b] pos) ρ k ρ2 :=
  pt_imp (pt_cmpR ho ha hb hm) fun σ H Q ⟨io, Hf, Hs, E, kk⟩ => ⟨io, Hf, Hs, E, fun u Hs1 H1 E1 f1 d1 => ⟨io, Hf, Hs1, E1, fun v Hs2 H2 E2 f2 d2 => ⟨Hs2, E2.st, Den.mono f2.ex d1, d2, fun w Hs3 H3 g q => by
    obtain ⟨E3, f3⟩ := E2.gr g
    cases q
    exact ⟨k, rfl, kk Hs3 H3 E3 ((f1.trans f2).trans f3)⟩⟩⟩⟩
theorem pd_un {op : UnaryOp} (ha : PD X a ρ (.val x) ρ1) (ho : UnD X (unaryOp op) x r) : PD X (.UnaryOp op a pos) ρ r ρ1 :=
  pe_imp (pe_un ho ha) fun σ H Q ⟨io, Hf, Hs, E, k⟩ => ⟨io, Hf, Hs, E, fun u Hs1 H1 E1 f1 d1 => ⟨Hs1, E1.st, d1, fun w Hs3 H3 g q => by
    obtain ⟨E3, f3⟩ := E1.gr g
    exact k w Hs3 H3 E3 (f1.trans f3) (E1.ret q)⟩⟩

/-! ### tests -/
/-- a test whose value is a bool -/
theorem ptd_bl {k : Bool} (h : PD X e ρ (.val (.bl k)) ρ1) (he : ∀ whole, isTrue e X.env whole = (do let v ← whole; standAt e.pos; holding [v] (truthy v)) := by intro _; rfl) : PTD X e ρ k ρ1 :=
  pt_imp (pt_val h he) fun σ H Q ⟨io, Hf, Hs, E, kk⟩ => ⟨io, Hf, Hs, E, fun v Hs' H' E' f q => by cases q; exact ⟨k, rfl, kk Hs' H' E' f⟩⟩
theorem ptd_not {k : Bool} (h : PTD X e ρ k ρ1) : PTD X (.UnaryOp .Not e pos) ρ (!k) ρ1 :=
  pt_imp (pt_not h) fun σ H Q ⟨io, Hf, Hs, E, kk⟩ => ⟨io, Hf, Hs, E, fun Hs' H' E' f => kk Hs' H' E' f⟩
/-- as a test whatever its whole is -/
def PWD (X : Cx) (e : Expr) (ρ : Rho) (b : Bool) (ρ' : Rho) : Prop := PW X e (rdT X.K ρ b ρ')
theorem PWD.pt {k : Bool} (h : PWD X e ρ k ρ1) : PTD X e ρ k ρ1 := PW.pt h
theorem pw_imp {t t' : TT} (h : PW X e t) (i : ∀ σ H Q, t' σ H Q → t σ H Q) : PW X e t' := ⟨fun wh pins s σ H Q I q => h.run wh pins s σ H Q I (i σ H Q q)⟩
theorem pwd_and1 {k : Bool} (h : PTD X a ρ k ρ1) : PWD X (.BoolOp .And [a] pos) ρ k ρ1 := pw_and1 h
theorem pwd_or1 {k : Bool} (h : PTD X a ρ k ρ1) : PWD X (.BoolOp .Or [a] pos) ρ k ρ1 := pw_or1 h
/-- a and b as a test (b leaves the slots as they are) -/
theorem pwd_and {k l : Bool} {rest : List Expr} (h1 : PTD X a ρ k ρ1) (h2 : k = true → PWD X (.BoolOp .And (b :: rest) pos) ρ1 l ρ1) : PWD X (.BoolOp .And (a :: b :: rest) pos) ρ (k && l) ρ1 := by
  cases k with
  | true =>
    refine pw_imp (pw_and h1 (h2 rfl)) fun σ H Q ⟨io, Hf, Hs, E, kk⟩ => ⟨io, Hf, Hs, E, fun Hs' H' E' f => ?_⟩
    refine iteT ?_
    exact ⟨io, Hf, Hs', E', fun Hs2 H2 E2 f2 => kk Hs2 H2 E2 (f.trans f2)⟩
  | false =>
    refine pw_imp (pw_and (tB' := fun _ _ _ => False) h1 ⟨fun _ _ _ _ _ _ _ q => q.elim⟩) fun σ H Q ⟨io, Hf, Hs, E, kk⟩ => ⟨io, Hf, Hs, E, fun Hs' H' E' f => ?_⟩
    refine iteF ?_
    exact kk Hs' H' E' f
theorem pwd_or {k l : Bool} {rest : List Expr} (h1 : PTD X a ρ k ρ1) (h2 : k = false → PWD X (.BoolOp .Or (b :: rest) pos) ρ1 l ρ1) : PWD X (.BoolOp .Or (a :: b :: rest) pos) ρ (k || l) ρ1 := by
  cases k with
  | false =>
    refine pw_imp (pw_or h1 (h2 rfl)) fun σ H Q ⟨io, Hf, Hs, E, kk⟩ => ⟨io, Hf, Hs, E, fun Hs' H' E' f => ?_⟩
    refine iteF ?_
    exact ⟨io, Hf, Hs', E', fun Hs2 H2 E2 f2 => kk Hs2 H2 E2 (f.trans f2)⟩
  | true =>
    refine pw_imp (pw_or (tB' := fun _ _ _ => False) h1 ⟨fun _ _ _ _ _ _ _ q => q.elim⟩) fun σ H Q ⟨io, Hf, Hs, E, kk⟩ => ⟨io, Hf, Hs, E, fun Hs' H' E' f => ?_⟩
    refine iteT ?_
    exact kk Hs' H' E' f
/-- and, or, not as values (bools) -/
theorem pd_one {op : BoolOp} (h : PD X a ρ r ρ1) : PD X (.BoolOp op [a] pos) ρ r ρ1 := pe_one h
theorem pd_and {k l : Bool} {rest : List Expr} (h1 : PD X a ρ (.val (.bl k)) ρ1) (h2 : k = true → PD X (.BoolOp .And (b :: rest) pos) ρ1 (.val (.bl l)) ρ1) : PD X (.BoolOp .And (a :: b :: rest) pos) ρ (.val (.bl (k && l))) ρ1 := by
  cases k with
  | true =>
    refine pe_imp (pe_and h1 (h2 rfl)) fun σ H Q ⟨io, Hf, Hs, E, kk⟩ => ⟨io, Hf, Hs, E, fun v Hs' H' E' f q => ?_⟩
    cases q
    refine ⟨true, rfl, ?_⟩
    refine iteT ?_
    exact ⟨io, Hf, Hs', E', fun v2 Hs2 H2 E2 f2 => kk v2 Hs2 H2 E2 (f.trans f2)⟩
  | false =>
    refine pe_imp (pe_and (tb := fun _ _ _ => False) h1 ⟨fun _ _ _ _ _ _ q => q.elim⟩) fun σ H Q ⟨io, Hf, Hs, E, kk⟩ => ⟨io, Hf, Hs, E, fun v Hs' H' E' f q => ?_⟩
    cases q
    refine ⟨false, rfl, ?_⟩
    refine iteF ?_
    exact kk _ Hs' H' E' f (.bl false)
theorem pd_or {k l : Bool} {rest : List Expr} (h1 : PD X a ρ (.val (.bl k)) ρ1) (h2 : k = false → PD X (.BoolOp .Or (b :: rest) pos) ρ1 (.val (.bl l)) ρ1) : PD X (.BoolOp .Or (a :: b :: rest) pos) ρ (.val (.bl (k || l))) ρ1 := by
  cases k with
  | false =>
    refine pe_imp (pe_or h1 (h2 rfl)) fun σ H Q ⟨io, Hf, Hs, E, kk⟩ => ⟨io, Hf, Hs, E, fun v Hs' H' E' f q => ?_⟩
    cases q
    refine ⟨false, rfl, ?_⟩
    refine iteF ?_
    exact ⟨io, Hf, Hs', E', fun v2 Hs2 H2 E2 f2 => kk v2 Hs2 H2 E2 (f.trans f2)⟩
  | true =>
    refine pe_imp (pe_or (tb := fun _ _ _ => False) h1 ⟨fun _ _ _ _ _ _ q => q.elim⟩) fun σ H Q ⟨io, Hf, Hs, E, kk⟩ => ⟨io, Hf, Hs, E, fun v Hs' H' E' f q => ?_⟩
    cases q
    refine ⟨true, rfl, ?_⟩
    refine iteT ?_
    exact kk _ Hs' H' E' f (.bl true)
theorem pd_not {k : Bool} (h : PD X a ρ (.val (.bl k)) ρ1) : PD X (.UnaryOp .Not a pos) ρ (.val (.bl (!k))) ρ1 :=
  pe_imp (pe_not h) fun σ H Q ⟨io, Hf, Hs, E, kk⟩ => ⟨io, Hf, Hs, E, fun v Hs' H' E' f q => by cases q; exact ⟨k, rfl, kk _ Hs' H' E' f (.bl _)⟩⟩
/-- a if c else b -/
theorem pd_ifT (hc : PTD X c ρ true ρ1) (ha : PD X a ρ1 r ρ2) : PD X (.IfExp c a b pos) ρ r ρ2 :=
  pe_imp (pe_ifExp (tb := fun _ _ _ => False) hc ha ⟨fun _ _ _ _ _ _ q => q.elim⟩) fun σ H Q ⟨io, Hf, Hs, E, kk⟩ => ⟨io, Hf, Hs, E, fun Hs' H' E' f => by
    refine iteT ?_
    exact ⟨io, Hf, Hs', E', fun v2 Hs2 H2 E2 f2 => kk v2 Hs2 H2 E2 (f.trans f2)⟩⟩
theorem pd_ifF (hc : PTD X c ρ false ρ1) (hb : PD X b ρ1 r ρ2) : PD X (.IfExp c a b pos) ρ r ρ2 :=
  pe_imp (pe_ifExp (ta := fun _ _ _ => False) hc ⟨fun _ _ _ _ _ _ q => q.elim⟩ hb) fun σ H Q ⟨io, Hf, Hs, E, kk⟩ => ⟨io, Hf, Hs, E, fun Hs' H' E' f => by
    refine iteF ?_
    exact ⟨io, Hf, Hs', E', fun v2 Hs2 H2 E2 f2 => kk v2 Hs2 H2 E2 (f.trans f2)⟩⟩
/-- both ways, one result -/
theorem pd_if {k : Bool} (hc : PTD X c ρ k ρ1) (ha : k = true → PD X a ρ1 r ρ2) (hb : k = false → PD X b ρ1 r ρ2) : PD X (.IfExp c a b pos) ρ r ρ2 := by
  cases k with
  | true => exact pd_ifT hc (ha rfl)
  | false => exact pd_ifF hc (hb rfl)

/-! ### arguments, displays -/
theorem pad_nil : PAD X [] ρ [] ρ := pa_imp pa_nil fun σ H Q ⟨io, Hf, Hs, E, k⟩ => k [] Hs H E ExF.refl .nil
theorem pad_cons {ds : List D} (h1 : PD X e ρ (.val d) ρ1) (h2 : PAD X es ρ1 ds ρ2) (hs : starEach (e :: es) X.env = (false, eval e X.env) :: starEach es X.env := by rfl) : PAD X (e :: es) ρ (d :: ds) ρ2 :=
  pa_imp (pa_cons h1 h2 hs) fun σ H Q ⟨io, Hf, Hs, E, k⟩ => ⟨io, Hf, Hs, E, fun v Hs1 H1 E1 f1 q1 => ⟨io, Hf, Hs1, E1, fun vs Hs2 H2 E2 f2 q2 => k _ Hs2 H2 E2 (f1.trans f2) (.cons (Den.mono f2.ex q1) q2)⟩⟩
theorem pd_tup {ds : List D} {x1 : Nat} (h : PAD X es ρ ds ρ1) (hz : ds.length ≤ 1000 := by first | decide | exact Nat.le_of_ble_eq_true rfl) : PD X (.Tuple es x1 pos) ρ (.val (.tup ds)) ρ1 :=
  pe_imp (pe_tup h) fun σ H Q ⟨io, Hf, Hs, E, k⟩ => ⟨io, Hf, Hs, E, fun vs Hs1 H1 E1 f1 q1 => ⟨by rw [q1.length]; exact Nat.le_trans hz (by decide), fun p hp => by
    obtain ⟨E2, f2⟩ := E1.gr (Gr.new (o := .tup vs) E1.st hp)
    exact k _ _ _ E2 (f1.trans f2) (.tup upd_same (q1.mono f2.ex))⟩⟩
theorem pd_lst {ds : List D} (h : PAD X es ρ ds ρ1) (hz : ds.length ≤ 1000 := by first | decide | exact Nat.le_of_ble_eq_true rfl) : PD X (.List es pos) ρ (.own (.lst ds)) ρ1 :=
  pe_imp (pe_lst h) fun σ H Q ⟨io, Hf, Hs, E, k⟩ => ⟨io, Hf, Hs, E, fun vs Hs1 H1 E1 f1 q1 => ⟨by rw [q1.length]; exact Nat.le_trans hz (by decide), fun p hp => by
    obtain ⟨E2, f2⟩ := E1.gr (Gr.newo (o := .lst vs) E1.st hp)
    exact k _ _ _ E2 (f1.trans f2) (E1.ret (r := .own (.lst ds)) ⟨p, rfl, hp, E1.st.none hp, vs, upd_same, q1⟩)⟩⟩
theorem pd_dct0 : PD X (.Dict [] [] pos) ρ (.own (.dct [])) ρ :=
  pe_imp pe_dnewK fun σ H Q ⟨io, Hf, Hs, E, k⟩ => fun p hp => by
    obtain ⟨E2, f2⟩ := E.gr (Gr.newo (o := .dK []) E.st hp)
    exact k _ _ _ E2 f2 (E.ret (r := .own (.dct [])) ⟨p, rfl, hp, E.st.none hp, [], upd_same, .nil⟩)

/-! ### subscripts, slices -/
theorem den_at {K : PySem.W.Frag} {H : Hp} {vs : List V} {ds : List D} {i : Int} (h : Dens K H vs ds) (q : atI ds i = some d) : ∃ v, atI vs i = some v ∧ Den K H v d := by
  unfold atI at q ⊢
  rw [h.length]
  cases e : ixN ds.length i with
  | none => rw [e] at q; cases q
  | some j =>
    rw [e] at q
    exact h.get q
theorem pd_ixL {ds : List D} {i : Int} (ha : PD X a ρ (.val (.lst ds)) ρ1) (hb : PD X b ρ1 (.val (.int i)) ρ2) (h : atI ds i = some d) (hs : PlainIx b := by exact fun _ _ => rfl) : PD X (.Subscript a b pos) ρ (.val d) ρ2 :=
  pe_imp (pe_ix ix_list ha hb hs) fun σ H Q ⟨io, Hf, Hs, E, k⟩ => ⟨io, Hf, Hs, E, fun u Hs1 H1 E1 f1 d1 => ⟨io, Hf, Hs1, E1, fun v Hs2 H2 E2 f2 d2 => by
    obtain ⟨p, vs, rfl, q1, q2⟩ := Den.seqL (.inl (Den.mono f2.ex d1))
    obtain ⟨w, w1, w2⟩ := den_at q2 h
    cases d2
    exact ⟨p, vs, i, w, rfl, rfl, ex_l E2.st q1, w1, k w Hs2 H2 E2 (f1.trans f2) w2⟩⟩⟩
theorem pd_ixLK {ds : List D} {i : Int} (ha : PD X a ρ (.val (.lstK ds)) ρ1) (hb : PD X b ρ1 (.val (.int i)) ρ2) (h : atI ds i = some d) (hs : PlainIx b := by exact fun _ _ => rfl) : PD X (.Subscript a b pos) ρ (.val d) ρ2 :=
  pe_imp (pe_ix ix_list ha hb hs) fun σ H Q ⟨io, Hf, Hs, E, k⟩ => ⟨io, Hf, Hs, E, fun u Hs1 H1 E1 f1 d1 => ⟨io, Hf, Hs1, E1, fun v Hs2 H2 E2 f2 d2 => by
    obtain ⟨p, vs, rfl, q1, q2⟩ := Den.seqL (.inr (Den.mono f2.ex d1))
    obtain ⟨w, w1, w2⟩ := den_at q2 h
    cases d2
    exact ⟨p, vs, i, w, rfl, rfl, ex_l E2.st q1, w1, k w Hs2 H2 E2 (f1.trans f2) w2⟩⟩⟩
theorem pd_ixT {ds : List D} {i : Int} (ha : PD X a ρ (.val (.tup ds)) ρ1) (hb : PD X b ρ1 (.val (.int i)) ρ2) (h : atI ds i = some d) (hs : PlainIx b := by exact fun _ _ => rfl) : PD X (.Subscript a b pos) ρ (.val d) ρ2 :=
  pe_imp (pe_ix ix_tup ha hb hs) fun σ H Q ⟨io, Hf, Hs, E, k⟩ => ⟨io, Hf, Hs, E, fun u Hs1 H1 E1 f1 d1 => ⟨io, Hf, Hs1, E1, fun v Hs2 H2 E2 f2 d2 => by
    obtain ⟨p, vs, rfl, q1, q2⟩ := Den.seqT (.inl (Den.mono f2.ex d1))
    obtain ⟨w, w1, w2⟩ := den_at q2 h
    cases d2
    exact ⟨p, vs, i, w, rfl, rfl, ex_t E2.st q1, w1, k w Hs2 H2 E2 (f1.trans f2) w2⟩⟩⟩
theorem pd_ixTK {ds : List D} {i : Int} (ha : PD X a ρ (.val (.tupK ds)) ρ1) (hb : PD X b ρ1 (.val (.int i)) ρ2) (h : atI ds i = some d) (hs : PlainIx b := by exact fun _ _ => rfl) : PD X (.Subscript a b pos) ρ (.val d) ρ2 :=
  pe_imp (pe_ix ix_tup ha hb hs) fun σ H Q ⟨io, Hf, Hs, E, k⟩ => ⟨io, Hf, Hs, E, fun u Hs1 H1 E1 f1 d1 => ⟨io, Hf, Hs1, E1, fun v Hs2 H2 E2 f2 d2 => by
    obtain ⟨p, vs, rfl, q1, q2⟩ := Den.seqT (.inr (Den.mono f2.ex d1))
    obtain ⟨w, w1, w2⟩ := den_at q2 h
    cases d2
    exact ⟨p, vs, i, w, rfl, rfl, ex_t E2.st q1, w1, k w Hs2 H2 E2 (f1.trans f2) w2⟩⟩⟩
/-- x[i], x an owned list's name -/
theorem pd_ixO (j : Nat) {x : Str} {p : Pos} {ds : List D} {i : Int} (hb : PD X b ρ (.val (.int i)) ρ1) (ho : ρ1[j]? = some (.own (.lst ds)) := by rfl) (h : atI ds i = some d) (hN : X.N[j]? = some x := by rfl)
    (hv : Vis X.env.scope x := by first | exact Or.inl rfl | exact Or.inr (Or.inl rfl) | exact Or.inr (Or.inr rfl)) (hs : PlainIx b := by exact fun _ _ => rfl) (hd : (x == ("__debug__" : Str)) = false := by decide) (hcd : (x == ("__classdict__" : Str)) = false := by decide)
    (h0 : ∃ d0, ρ[j]? = some (.own d0) := by exact ⟨_, rfl⟩) : PD X (.Subscript (.Name x p) b pos) ρ (.val d) ρ1 :=
  pe_imp (pe_ix ix_list (pe_var hN hv hd hcd) hb hs) fun σ H Q ⟨io, Hf, Hs, E, k⟩ => by
    obtain ⟨d0, h0⟩ := h0
    obtain ⟨q, g1, g2, g3, g4⟩ := E.own j d0 h0
    refine ⟨.ref q, g1, ⟨io, Hf, Hs, E, fun v Hs2 H2 E2 f2 d2 => ?_⟩⟩
    obtain ⟨q', z1, z2, z3, z4⟩ := E2.own j _ ho
    rw [g1] at z1
    cases z1
    obtain ⟨vs, y1, y2⟩ := z2
    obtain ⟨w, w1, w2⟩ := den_at y2 h
    cases d2
    exact ⟨q, vs, i, w, rfl, rfl, .inl (.inl y1), w1, k w Hs2 H2 E2 f2 w2⟩

/-! ### fields -/
theorem pd_fld {f : Str} {C : Addr} {gs : List (Str × D)} (he : PD X e ρ (.val (.obj C gs)) ρ1) (c : Cls X.K C) (n : NoAttr X.K C f) (l : gs.lookup f = some d) (hb : attributeBase e f X.env (eval e X.env) = eval e X.env := by rfl) : PD X (.Attribute e f pos) ρ (.val d) ρ1 :=
  pe_imp (pe_fld he hb) fun σ H Q ⟨io, Hf, Hs, E, k⟩ => ⟨io, Hf, Hs, E, fun v Hs1 H1 E1 f1 q => by
    cases q with
    | @obj a C dx fs gs q1 q2 =>
      obtain ⟨w, w1, w2⟩ := q2.look l
      exact ⟨a, C, dx, fs, w, rfl, E1.st _ _ q1, c, n, w1, k w Hs1 H1 E1 f1 w2⟩⟩
/-- self.f, self an owned instance -/
theorem pd_fldO (j : Nat) {x f : Str} {p : Pos} {C : Addr} {gs : List (Str × D)} (c : Cls X.K C) (n : NoAttr X.K C f) (ho : ρ[j]? = some (.own (.obj C gs)) := by rfl) (l : gs.lookup f = some d) (hN : X.N[j]? = some x := by rfl)
    (hv : Vis X.env.scope x := by first | exact Or.inl rfl | exact Or.inr (Or.inl rfl) | exact Or.inr (Or.inr rfl)) (hb : attributeBase (.Name x p) f X.env (eval (.Name x p) X.env) = eval (.Name x p) X.env := by rfl)
    (hd : (x == ("__debug__" : Str)) = false := by decide) (hcd : (x == ("__classdict__" : Str)) = false := by decide) : PD X (.Attribute (.Name x p) f pos) ρ (.val d) ρ :=
  pe_imp (pe_fld (pe_var hN hv hd hcd) hb) fun σ H Q ⟨io, Hf, Hs, E, k⟩ => by
    obtain ⟨q, g1, g2, g3, g4⟩ := E.own j _ ho
    obtain ⟨dx, fs, y1, y2⟩ := g2
    obtain ⟨w, w1, w2⟩ := y2.look l
    exact ⟨.ref q, g1, q, C, dx, fs, w, rfl, y1, c, n, w1, k w Hs H E ExF.refl w2⟩
end

/-! ### statements -/
section
variable {X : Cx} {bi : Bool} {ρ ρ1 ρ2 : Rho} {k : Kn} {pos : Pos} {st : Stmt} {rest body orelse : List Stmt} {e : Expr} {r : Res} {d : D}
theorem psd_nil (h : k.nx ρ) : PSD X bi [] ρ k := pss_imp pss_nil fun Z σ H ⟨io, Hf, Hs, hb, E, kk⟩ => kk.nx ρ σ Hs H h E ExF.refl
theorem psd_cons (M : Rho → Prop) (h1 : PS1 X bi st ρ { k with nx := M }) (h2 : ∀ ρ1, M ρ1 → PSD X bi rest ρ1 k) : PSD X bi (st :: rest) ρ k :=
  pss_imp (pss_cons h1 (pss_any (tf := fun a : { ρ1 : Rho // M ρ1 } => rdS X.K bi a.1 k) fun a => h2 a.1 a.2)) fun Z σ H ⟨io, Hf, Hs, hb, E, kk⟩ =>
    ⟨io, Hf, Hs, hb, E, ⟨fun ρ' σ' Hs' H' m E' f => ⟨⟨ρ', m⟩, io, Hf, Hs', hb, E', kk.later f⟩, kk.rt, kk.bk, kk.ct⟩⟩
theorem psd_st (h1 : PS1 X bi st ρ { k with nx := fun ρ' => ρ' = ρ1 }) (h2 : PSD X bi rest ρ1 k) : PSD X bi (st :: rest) ρ k := psd_cons _ h1 fun _ e => e ▸ h2
/-- a slot that owns is stilled -/
theorem psd_still (i : Nat) (h0 : ρ[i]? = some (.own d)) (h : PSD X bi rest (ρ.set i (.val d)) k) : PSD X bi rest ρ k :=
  pss_imp h fun Z σ H ⟨io, Hf, Hs, hb, E, kk⟩ => by
    obtain ⟨Hs', f, E'⟩ := E.still h0
    exact ⟨io, Hf, Hs', hb, E', kk.later f⟩
theorem psd_never {ss : List Stmt} (h : False) : PSD X bi ss ρ k := h.elim
theorem ps1_set (i : Nat) {x : Str} {p : Pos} (hN : X.N.Nodup) (he : PD X e ρ r ρ1) (hk : k.nx (ρ1.set i r.sl) := by rfl) (hi : X.N[i]? = some x := by rfl) (hx : Loc X.env.scope x := by first | exact Or.inl rfl | exact Or.inr rfl)
    (hio : i ≠ 0 ∨ bi = false := by first | exact Or.inl (by decide) | exact Or.inr rfl) (hs : swapsWith e (some (.Name x p)) pos.line X.env = pure false := by rfl)
    (hf : X.fn x = true ∨ X.env.scope.names.lookup x = some .local := by first | exact .inl rfl | exact .inr rfl) : PS1 X bi (.Assign [.Name x p] e pos) ρ k :=
  ps_imp (ps_set hN hi hx he hs hf) fun Z σ H ⟨io, Hf, Hs, hb, E, kk⟩ => ⟨io, Hf, Hs, E, fun v Hs1 H1 E1 f1 q1 =>
    kk.nx _ _ Hs1 H1 hk (E1.setr q1 (hio.imp_right hb)) f1⟩
theorem ps1_ret (he : PD X e ρ r ρ1) (hk : k.rt r ρ1) : PS1 X bi (.Return (some e) pos) ρ k :=
  ps_imp (ps_ret he) fun Z σ H ⟨io, Hf, Hs, hb, E, kk⟩ => ⟨io, Hf, Hs, E, fun v Hs1 H1 E1 f1 q1 => kk.rt _ _ v σ Hs1 H1 hk E1 f1 q1⟩
theorem ps1_retN (hk : k.rt (.val .non) ρ) : PS1 X bi (.Return none pos) ρ k :=
  ps_imp ps_retN fun Z σ H ⟨io, Hf, Hs, hb, E, kk⟩ => kk.rt _ _ .non σ Hs H hk E ExF.refl .non
theorem psd_ret {ss : List Stmt} (he : PD X e ρ r ρ1) (hk : k.rt r ρ1) : PSD X bi (.Return (some e) pos :: ss) ρ k := psd_cons (fun _ => False) (ps1_ret he hk) fun _ z => z.elim
theorem psd_retN {ss : List Stmt} (hk : k.rt (.val .non) ρ) : PSD X bi (.Return none pos :: ss) ρ k := psd_cons (fun _ => False) (ps1_retN hk) fun _ z => z.elim
theorem ps1_expr (he : PD X e ρ r ρ1) (hk : k.nx ρ1 := by rfl) (hs : swapsWith e none pos.line X.env = pure false := by rfl) : PS1 X bi (.Expr e pos) ρ k :=
  ps_imp (ps_expr he hs) fun Z σ H ⟨io, Hf, Hs, hb, E, kk⟩ => ⟨io, Hf, Hs, E, fun v Hs1 H1 E1 f1 q1 => kk.nx _ _ Hs1 H1 hk E1 f1⟩
theorem ps1_pass (hk : k.nx ρ := by rfl) : PS1 X bi (.Pass pos) ρ k := ps_imp ps_pass fun Z σ H ⟨io, Hf, Hs, hb, E, kk⟩ => kk.nx _ _ Hs H hk E ExF.refl
theorem ps1_break (hk : k.bk ρ) : PS1 X bi (.Break pos) ρ k := ps_imp ps_break fun Z σ H ⟨io, Hf, Hs, hb, E, kk⟩ => kk.bk _ _ Hs H hk E ExF.refl
theorem ps1_continue (hk : k.ct ρ) : PS1 X bi (.Continue pos) ρ k := ps_imp ps_continue fun Z σ H ⟨io, Hf, Hs, hb, E, kk⟩ => kk.ct _ _ Hs H hk E ExF.refl
theorem pss_dead {ss : List Stmt} : PSs X ss (fun _ _ _ => False) := ⟨fun _ _ _ _ _ _ h => h.elim⟩
theorem ps1_if {c : Expr} {b : Bool} (hc : PTD X c ρ b ρ1) (ha : b = true → PSD X bi body ρ1 k) (hb : b = false → PSD X bi orelse ρ1 k) : PS1 X bi (.If c body orelse pos) ρ k := by
  cases b with
  | true =>
    refine ps_imp (ps_if hc (ha rfl) (pss_dead (ss := orelse))) fun Z σ H ⟨io, Hf, Hs, hb, E, kk⟩ => ⟨io, Hf, Hs, E, fun Hs1 H1 E1 f1 => ?_⟩
    refine iteT ?_
    exact ⟨io, Hf, Hs1, hb, E1, kk.later f1⟩
  | false =>
    refine ps_imp (ps_if hc (pss_dead (ss := body)) (hb rfl)) fun Z σ H ⟨io, Hf, Hs, hb, E, kk⟩ => ⟨io, Hf, Hs, E, fun Hs1 H1 E1 f1 => ?_⟩
    refine iteF ?_
    exact ⟨io, Hf, Hs1, hb, E1, kk.later f1⟩
/-- an if in a block, either way goes on with the rest -/
theorem psd_if {c : Expr} {b : Bool} (hc : PTD X c ρ b ρ1) (ha : b = true → PSD X bi body ρ1 { k with nx := fun ρ' => PSD X bi rest ρ' k }) (hb : b = false → PSD X bi orelse ρ1 { k with nx := fun ρ' => PSD X bi rest ρ' k }) : PSD X bi (.If c body orelse pos :: rest) ρ k :=
  psd_cons (fun ρ' => PSD X bi rest ρ' k) (ps1_if hc ha hb) fun _ h => h
/-- .. the way is known -/
theorem psd_ifT {c : Expr} (hc : PTD X c ρ true ρ1) (ha : PSD X bi body ρ1 { k with nx := fun ρ' => PSD X bi rest ρ' k }) : PSD X bi (.If c body orelse pos :: rest) ρ k := psd_if hc (fun _ => ha) fun z => by cases z
theorem psd_ifF {c : Expr} (hc : PTD X c ρ false ρ1) (hb : PSD X bi orelse ρ1 { k with nx := fun ρ' => PSD X bi rest ρ' k }) : PSD X bi (.If c body orelse pos :: rest) ρ k := psd_if hc (fun z => by cases z) fun _ => hb
/-- .. no else, not taken -/
theorem psd_skip {c : Expr} (hc : PTD X c ρ false ρ1) (hr : PSD X bi rest ρ1 k) : PSD X bi (.If c body [] pos :: rest) ρ k := psd_ifF hc (psd_nil hr)

end
end Dn
end

section
set_option Elab.async false
set_option linter.all false
set_option maxRecDepth 100000
set_option maxHeartbeats 2000000
/-! DCall: promises of defs over data (spD; spIO: the first argument an owned object that is changed), bodies, calls. -/
namespace Dn
open PySem PySem.Spec L2
open PyProof.Rows (envOfC)

/-- a def keeps a promise (nothing is raised), where no built-in guard stands around it, if gd -/
structure FnB (gd : Bool) (P : Program) (w : World) (K : PySem.W.Frag) (mg : Str → Option Value) (base : Heap) (k : Nat) (f : Addr) (fd : FuncData) (ps : List Str) (sp : Sp) : Prop where
  len : ∀ vs H Q, sp vs H Q E0 → vs.length = ps.length
  run : ∀ (A : Around) (outer : List Env) (s : Shared) (H : Hp) (args : Args) (us : List Value) (vs : List V) (Q : VK), Room k A → (gd = true → A.guards = some []) → Env0 P w K mg base A outer s H →
    BindsTo s fd args (ps.zip us) → Vals vs us → sp vs H Q E0 → codeAny (model P w) A (.call (.ref f) args) (CR CX0 outer P w H s Q E0) s
section
variable {P : Program} {w : World} {K : PySem.W.Frag} {mg : Str → Option Value} {base : Heap} {x qual : Str} {st : Stmt} {f : Addr} {fd : FuncData} {N ps : List Str} {k : Nat} {sp : Sp} {gd : Bool}
theorem FnB.ok (F : FnB false P w K mg base k f fd ps sp) (hE : ∀ vs H Q E, sp vs H Q E → sp vs H Q E0) : FnOk P w K mg base CX0 k f fd ps sp :=
  ⟨fun vs H Q E h => F.len vs H Q (hE _ _ _ _ h), fun A outer s H args us vs Q E hr he hb hv hs => codeAny_mono (F.run A outer s H args us vs Q hr (fun z => Bool.noConfusion z) he hb hv (hE _ _ _ _ hs)) fun r s' q => by
    cases r with
    | ok fl => exact q
    | error e => exact False.elim q⟩
theorem FnB.mono {j : Nat} (F : FnB gd P w K mg base j f fd ps sp) (h : j ≤ k) : FnB gd P w K mg base k f fd ps sp := ⟨F.len, fun A outer s H args us vs Q hr => F.run A outer s H args us vs Q (hr.mono h)⟩
/-- a def of the text, its defaults whatever they are -/
structure FunG (K : PySem.W.Frag) (x qual : Str) (st : Stmt) (f : Addr) (fd : FuncData) : Prop where
  ex : ∃ (oc : Value) (od : Option Addr) (dV kV doc pm : Value) (an : Option Addr) (cdv ct : Value) (osl : Array (Option Value)),
    fd = PySem.W.fnOf x qual (defArgs st) (defBody st) (defScope st) dV kV doc pm an cdv ct ∧ K.lookup f = some ⟨oc, od, .func fd, osl⟩ ∧ PySem.W.codeIn K cdv qual = true
theorem FunG.of (F : Fun K x qual st f fd) : FunG K x qual st f fd := by
  obtain ⟨oc, od, kV, doc, pm, an, cdv, ct, osl, h1, h2, h3⟩ := F.ex
  exact ⟨oc, od, _, kV, doc, pm, an, cdv, ct, osl, h1, h2, h3⟩
theorem FunG.ofD {dvs : List V} {kws : List (Str × V)} (F : FunD K x qual (defArgs st) (defBody st) (defScope st) dvs kws f fd) : FunG K x qual st f fd := by
  obtain ⟨oc, od, dV, kV, doc, pm, an, cdv, ct, osl, h1, h2, h3, _, _⟩ := F.ex
  exact ⟨oc, od, dV, kV, doc, pm, an, cdv, ct, osl, h1, h2, h3⟩
/-- by its body -/
theorem fnB_of (F : FunG K x qual st f fd) (S : FnScope N ps (defScope st)) (len : ∀ vs H Q, sp vs H Q E0 → vs.length = ps.length)
    (body : ∀ (cdv : Value) (A : Around) (outer : List Env) (s : Shared) (H : Hp) (vs : List V) (Q : VK), Room k (A.deeper (envOfC qual (defScope st) s.heap.objs.size f cdv)) → (gd = true → A.guards = some []) → sp vs H Q E0 →
      ∃ t, PSs (cxOf CX0 P w K mg base N qual (defScope st) f cdv A outer s H E0).nox (defBody st) t ∧ t { nx := fun _ H' => Q .non H', rt := Q } (L2.start N vs) H) : FnB gd P w K mg base (k + 1) f fd ps sp := by
  obtain ⟨oc, od, dV, kV, doc, pm, an, cdv, ct, osl, rfl, at_, code⟩ := F.ex
  refine ⟨len, fun A outer s H args us vs Q room nog e0 bind vals promise => ?_⟩
  have same := len _ _ _ promise
  have kin : K.In s.heap := e0.mod.kin.keeps fun a u z => (e0.bs a u z).1
  have free : s.heap.NoLimit := e0.mod.nolimit.keeps fun a u z => (e0.bs a u z).1
  refine codeAny_call_function room.depth (kin _ _ at_) rfl S.co S.gen rfl (PySem.W.codeRec_of kin code) (bind _ _ _ _ ?_)
  refine wpAny_newFunctionEnv_cells S.kind (fun y hy => ?_) fun env he s1 inner => ?_
  · rcases S.par y.1 (List.of_mem_zip hy).1 with z | z
    · exact .inl z
    · exact .inr ⟨z, PySem.W.cellsFrom_some _ _ _ (.inl z)⟩
  cases he
  refine ⟨free.keeps inner.toInCall.keep, codeAny_func ?_⟩
  obtain ⟨t, runs, wish⟩ := body cdv A outer s H vs Q (room.deeper _) nog promise
  have start0 : Inv (cxOf CX0 P w K mg base N qual (defScope st) f cdv A outer s H E0) [] (L2.start N vs) H s1 := inv_start S room.hd e0 same vals inner
  refine wpAny_mono (runs.nox.run [] s1 _ H _ start0 wish) (fun fl s' hs => ?_) fun er s' hs => hs
  cases fl with
  | brk => obtain ⟨_, _, _, z⟩ := hs; exact False.elim z
  | cont => obtain ⟨_, _, _, z⟩ := hs; exact False.elim z
  | next =>
    obtain ⟨σ1, H1, J, z⟩ := hs
    exact ⟨V.non, H1, J.os, J.bare, J.base, J.hok, rfl, z⟩
  | ret u =>
    obtain ⟨v, σ1, H1, J, rel, z⟩ := hs
    exact ⟨v, H1, J.os, J.bare, J.base, J.hok, rel, z⟩
end
/-- a def of the module that keeps a promise; a method; a class that is made -/
structure Cal (gd : Bool) (P : Program) (w : World) (K : PySem.W.Frag) (mg : Str → Option Value) (base : Heap) (k : Nat) (x : Str) (sp : Sp) (dvs : List V) : Prop where
  ex : ∃ (f : Addr) (fd : FuncData) (ps : List Str) (ds : List Value), FnB gd P w K mg base k f fd ps sp ∧ mg x = some (.ref f) ∧ PySem.W.keepIn K (.ref f) = true ∧ Binds K fd ps ds ∧ Vals dvs ds
structure Met (P : Program) (w : World) (K : PySem.W.Frag) (mg : Str → Option Value) (base : Heap) (k : Nat) (C : Addr) (m : Str) (sp : Sp) (dvs : List V) : Prop where
  ex : ∃ (f : Addr) (fd : FuncData) (ps : List Str) (ds : List Value), Cls K C ∧ Meth K C m f ∧ FnOk P w K mg base CX0 k f fd ps sp ∧ Binds K fd ps ds ∧ Vals dvs ds
structure Mak (P : Program) (w : World) (K : PySem.W.Frag) (mg : Str → Option Value) (base : Heap) (k : Nat) (x : Str) (C : Addr) (sp : Sp) (dvs : List V) : Prop where
  ex : ∃ (f : Addr) (fd : FuncData) (ps : List Str) (ds : List Value), Mk K C f ∧ FnOk P w K mg base CX0 k f fd ps sp ∧ mg x = some (.ref C) ∧ Binds K fd ps ds ∧ Vals dvs ds
section
variable {X : Cx} {pos p apos : Pos} {e o : Expr} {es : List Expr} {x m : Str} {C : Addr} {k j : Nat} {sp : Sp} {dvs : List V} {t : TA} {ta : TE}
/-- the callee runs -/
theorem runB {gd : Bool} {pins : List (Addr × Obj)} {σ : L2.St} {H : Hp} {s : Shared} {Q : VK} {f : Addr} {fd : FuncData} {ps : List Str} {us ds : List Value} {vs : List V} (F : FnB gd X.prog X.w X.K X.mg X.base k f fd ps sp) (room : Room k X.A) (nog : gd = true → X.A.guards = some []) (bind : Binds X.K fd ps ds) (dv : Vals dvs ds)
    (I : Inv X pins σ H s) (rel : Vals vs us) (promise : sp (vs ++ dvs) H Q E0) : wpAny (model X.prog X.w) X.A (call (.ref f) us) (EP X pins σ Q) X.xe s := by
  have all := rel.append dv
  have many : (us ++ ds).length = ps.length := all.length.symm.trans (F.len _ _ _ promise)
  refine wpAny_call (codeAny_mono (F.run X.A X.stack s H ⟨us, []⟩ (us ++ ds) (vs ++ dvs) Q room nog I.env0 (bind s us I.kIn many) all promise) fun res s' z => ?_)
  cases res with
  | error er => exact False.elim z
  | ok fl => cases fl <;> first | exact I.after z | exact False.elim z
theorem pe_c {gd : Bool} (c : Cal gd X.prog X.w X.K X.mg X.base k x sp dvs) (hr : Room j X.A) (nog : gd = true → X.A.guards = some []) (hk : k ≤ j) (hg : Gl X x) (ha : PA X (e :: es) t)
    (hdb : (x == ("__debug__" : Str)) = false := by decide) (he : starEach (e :: es) X.env = (false, eval e X.env) :: starEach es X.env := by rfl) (hpl : (backTo pos (starEach es X.env)).any (·.1) = false := by rfl) :
    PE X (.Call (.Name x p) (e :: es) [] pos) (tCall sp dvs E0 t) := by
  obtain ⟨f, fd, ps, ds, F, hm, kp, b, d⟩ := c.ex
  exact ⟨fun pins s σ H Q I z => wpAny_Call_Name_kw (ld_glob I hg hm (PySem.W.callWith_K (h₀ := X.base) I.ok.mod.kin kp (thn (ha.run pos pins s σ H _ I z) fun us s1 ⟨vs, H1, I1, rel, q⟩ => ⟨I1.kIn, runB F (hr.mono hk) nog b d I1 rel q⟩) he hpl) hdb)⟩
theorem pe_c0 {gd : Bool} (c : Cal gd X.prog X.w X.K X.mg X.base k x sp dvs) (hr : Room j X.A) (nog : gd = true → X.A.guards = some []) (hk : k ≤ j) (hg : Gl X x) (hdb : (x == ("__debug__" : Str)) = false := by decide) : PE X (.Call (.Name x p) [] [] pos) (tCall sp dvs E0 tNil) := by
  obtain ⟨f, fd, ps, ds, F, hm, kp, b, d⟩ := c.ex
  exact ⟨fun pins s σ H Q I z => wpAny_Call_Name_kw (ld_glob I hg hm (PySem.W.callWith_K0 I.kIn kp (runB (us := []) F (hr.mono hk) nog b d I .nil z)) hdb)⟩
theorem pe_mk (c : Mak X.prog X.w X.K X.mg X.base k x C sp dvs) (hr : Room j X.A) (hk : k + 1 ≤ j) (hg : Gl X x) (ha : PA X (e :: es) t)
    (hdb : (x == ("__debug__" : Str)) = false := by decide) (he : starEach (e :: es) X.env = (false, eval e X.env) :: starEach es X.env := by rfl) (hpl : (backTo pos (starEach es X.env)).any (·.1) = false := by rfl) :
    PE X (.Call (.Name x p) (e :: es) [] pos) (tMake C sp dvs E0 t) := by
  obtain ⟨f, fd, ps, ds, M, F, hm, b, d⟩ := c.ex
  exact pe_make M F (hr.mono hk) hg hm b d pass0 ha hdb he hpl
theorem pe_mt {pl : Sem Bool} (c : Met X.prog X.w X.K X.mg X.base k C m sp dvs) (hr : Room j X.A) (hk : k ≤ j) (he : PE X o ta) (ha : PA X (e :: es) t)
    (hst : starEach (e :: es) X.env = (false, eval e X.env) :: starEach es X.env := by rfl) (hpl : (backTo pos (starEach es X.env)).any (·.1) = false := by rfl)
    (ht : eval (.Call (.Attribute o m apos) (e :: es) [] pos) X.env = (do
      let ov ← eval o X.env
      standAt apos.atName
      let (f, first) ← holding [ov] (getMethod ov m pl)
      callWith pos f first (backTo pos (starEach (e :: es) X.env)) (backToKw pos (keywordEach [] X.env))) := by rfl) :
    PE X (.Call (.Attribute o m apos) (e :: es) [] pos) (tMeth C m sp dvs E0 ta t) := by
  obtain ⟨f, fd, ps, ds, cl, hm, F, b, d⟩ := c.ex
  exact pe_meth (pl := pl) he cl hm F (hr.mono hk) b d pass0 ha hst hpl ht
theorem pe_mt0 {pl : Sem Bool} (c : Met X.prog X.w X.K X.mg X.base k C m sp dvs) (hr : Room j X.A) (hk : k ≤ j) (he : PE X o ta)
    (ht : eval (.Call (.Attribute o m apos) [] [] pos) X.env = (do
      let ov ← eval o X.env
      standAt apos.atName
      let (f, first) ← holding [ov] (getMethod ov m pl)
      callWith pos f first (backTo pos (starEach [] X.env)) (backToKw pos (keywordEach [] X.env))) := by rfl) :
    PE X (.Call (.Attribute o m apos) [] [] pos) (tMeth C m sp dvs E0 ta tNil) := by
  obtain ⟨f, fd, ps, ds, cl, hm, F, b, d⟩ := c.ex
  exact pe_meth0 (pl := pl) he cl hm F (hr.mono hk) b d pass0 ht
end

/-- data in, a result out -/
def spD (K : PySem.W.Frag) (S : List D → Res → Prop) : Sp := fun vs H Q _ => ∃ ds r Hs, S ds r ∧ Ex Hs H ∧ Dens K Hs vs ds ∧ ∀ w Hs' H', Gr H H' Hs Hs' → RetOk K H Hs' H' w r → Q w H'
/-- all but what stands at a has stayed -/
structure GrA (a : Addr) (H H' Hs Hs' : Hp) : Prop where
  ex : ∀ b o, b ≠ a → H b = some o → H' b = some o
  st : Ex Hs' H'
  s : Ex Hs Hs'
  nw : ∀ b o, H b = some o → Hs b = none → Hs' b = none
/-- the first argument owned: its content ahead and behind -/
def spIO (K : PySem.W.Frag) (T : D → List D → Res → D → Prop) : Sp := fun vs H Q _ => ∃ a vr c ds r c' Hs, vs = .ref a :: vr ∧ T c ds r c' ∧ Ex Hs H ∧ Hs a = none ∧ OwnAt K Hs H a c ∧ Dens K Hs vr ds ∧
  ∀ w Hs' H', GrA a H H' Hs Hs' → OwnAt K Hs' H' a c' → RetOk K H Hs' H' w r → Q w H'

def rho0 (N : List Str) (ds : List D) : Rho := ds.map Sl.val ++ List.replicate (N.length - ds.length) Sl.non
def kRet (r : Res) : Kn := { nx := fun _ => r = .val .non, rt := fun r' _ => r' = r }
def kIO (r : Res) (c : D) : Kn := { nx := fun ρ' => r = .val .non ∧ ρ'[0]? = some (.own c), rt := fun r' ρ' => r' = r ∧ ρ'[0]? = some (.own c) }

section
variable {K : PySem.W.Frag}
theorem rho_start_len {N : List Str} {vs : List V} {ds : List D} (h : vs.length = ds.length) : (rho0 N ds).length = (L2.start N vs).length := by
  unfold rho0 L2.start
  simp only [List.length_append, List.length_map, List.length_replicate, h]
theorem rho0_val {N : List Str} {ds : List D} {i : Nat} {d : D} (h : (rho0 N ds)[i]? = some (.val d)) : ds[i]? = some d := by
  unfold rho0 at h
  by_cases hl : i < ds.length
  · rw [List.getElem?_append_left (by rw [List.length_map]; exact hl), List.getElem?_map] at h
    cases q : ds[i]? with
    | none => rw [q] at h; cases h
    | some e =>
      rw [q] at h
      cases h
      rfl
  · rw [List.getElem?_append_right (by rw [List.length_map]; omega), List.getElem?_replicate] at h
    split at h <;> cases h
theorem rho0_own {N : List Str} {ds : List D} {i : Nat} {d : D} (h : (rho0 N ds)[i]? = some (.own d)) : False := by
  unfold rho0 at h
  by_cases hl : i < ds.length
  · rw [List.getElem?_append_left (by rw [List.length_map]; exact hl), List.getElem?_map] at h
    cases q : ds[i]? with
    | none => rw [q] at h; cases h
    | some e =>
      rw [q] at h
      cases h
  · rw [List.getElem?_append_right (by rw [List.length_map]; omega), List.getElem?_replicate] at h
    split at h <;> cases h
theorem start_some {N : List Str} {vs : List V} {i : Nat} {v : V} (h : vs[i]? = some v) : (L2.start N vs)[i]? = some (some v) := by
  unfold L2.start
  have hl := (List.getElem?_eq_some_iff.mp h).1
  rw [List.getElem?_append_left (by rw [List.length_map]; exact hl), List.getElem?_map, h]
  rfl
theorem env_start {N : List Str} {vs : List V} {ds : List D} {H Hs : Hp} (e : Ex Hs H) (h : Dens K Hs vs ds) : EnvOk K none (rho0 N ds) (L2.start N vs) H Hs H :=
  ⟨Ex.refl _, e, rho_start_len h.length, fun i d q => by
    obtain ⟨v, h1, h2⟩ := h.get (rho0_val q)
    exact ⟨v, start_some h1, h2⟩, fun i d q => (rho0_own q).elim, fun i j d e a q => (rho0_own q).elim, fun a q => by cases q⟩
end

section
variable {P : Program} {w : World} {K : PySem.W.Frag} {mg : Str → Option Value} {base : Heap} {x qual : Str} {st : Stmt} {f : Addr} {fd : FuncData} {N ps : List Str} {k : Nat} {gd : Bool}
/-- a def's promise, by its body -/
theorem fnD {S : List D → Res → Prop} (F : FunG K x qual st f fd) (Sc : FnScope N ps (defScope st)) (hl : ∀ ds r, S ds r → ds.length = ps.length)
    (hb : ∀ (cdv : Value) (A : Around) (outer : List Env) (s : Shared) (H : Hp), Room k (A.deeper (envOfC qual (defScope st) s.heap.objs.size f cdv)) → (gd = true → A.guards = some []) → ∀ ds r, S ds r →
      PSD (cxOf CX0 P w K mg base N qual (defScope st) f cdv A outer s H E0).nox false (defBody st) (rho0 N ds) (kRet r)) : FnB gd P w K mg base (k + 1) f fd ps (spD K S) := by
  refine fnB_of F Sc (fun vs H Q ⟨ds, r, Hs, h, e, dn, _⟩ => dn.length.trans (hl ds r h)) (fun cdv A outer s H vs Q hr hG ⟨ds, r, Hs, h, e, dn, q⟩ => ?_)
  refine ⟨_, hb cdv A outer s H hr hG ds r h, none, H, Hs, fun _ => rfl, env_start e dn, fun ρ' σ' Hs' H' n E' g => ?_, fun r' ρ' v σ' Hs' H' n E' g z => ?_, fun _ _ _ _ z => False.elim z, fun _ _ _ _ z => False.elim z⟩
  · have n : r = .val .non := n
    subst n
    exact q _ Hs' H' ⟨E'.fr, E'.st, g.ex, g.nw⟩ (.non)
  · have n : r' = r := n
    subst n
    refine q v Hs' H' ⟨E'.fr, E'.st, g.ex, g.nw⟩ ?_
    cases r' with
    | val d => exact z
    | own d =>
      obtain ⟨p, rfl, h1, h2, h3, h4⟩ := z
      exact ⟨p, rfl, h3, h2, h1⟩
noncomputable def less (H : Hp) (a : Addr) : Hp := fun b => if b = a then none else H b
theorem less_ne {H : Hp} {a b : Addr} (h : b ≠ a) : less H a b = H b := by unfold less; rw [if_neg h]
theorem less_at {H : Hp} {a : Addr} : less H a a = none := by unfold less; rw [if_pos rfl]
theorem less_some {H : Hp} {a b : Addr} {o : HO} (h : less H a b = some o) : b ≠ a ∧ H b = some o := by
  by_cases e : b = a
  · subst e; rw [less_at] at h; cases h
  · rw [less_ne e] at h; exact ⟨e, h⟩
theorem fnIO {T : D → List D → Res → D → Prop} (F : FunG K x qual st f fd) (Sc : FnScope N ps (defScope st)) (hl : ∀ c ds r c', T c ds r c' → ds.length + 1 = ps.length)
    (hb : ∀ (cdv : Value) (A : Around) (outer : List Env) (s : Shared) (H : Hp), Room k (A.deeper (envOfC qual (defScope st) s.heap.objs.size f cdv)) → (gd = true → A.guards = some []) → ∀ c ds r c', T c ds r c' →
      PSD (cxOf CX0 P w K mg base N qual (defScope st) f cdv A outer s H E0).nox true (defBody st) (.own c :: rho0 N.tail ds) (kIO r c')) : FnB gd P w K mg base (k + 1) f fd ps (spIO K T) := by
  have hN : ∃ n0 nr, N = n0 :: nr ∨ ∀ c ds r c', ¬ T c ds r c' := by
    cases N with
    | nil =>
      refine ⟨"", [], .inr fun c ds r c' t => ?_⟩
      have z := Sc.pre
      rw [List.take_nil] at z
      have y := hl c ds r c' t
      rw [← z] at y
      simp at y
    | cons n0 nr => exact ⟨n0, nr, .inl rfl⟩
  refine fnB_of F Sc (fun vs H Q ⟨a, vr, c, ds, r, c', Hs, ev, h, e, na, oa, dn, _⟩ => by rw [ev, List.length_cons, dn.length]; exact hl c ds r c' h) (fun cdv A outer s H vs Q hr hG ⟨a, vr, c, ds, r, c', Hs, ev, h, e, na, oa, dn, q⟩ => ?_)
  obtain ⟨n0, nr, hN⟩ := hN
  rcases hN with hN | hN
  · subst ev
    have E0 : EnvOk K (some a) (.own c :: rho0 N.tail ds) (L2.start N (.ref a :: vr)) (less H a) Hs H := by
      subst hN
      have es : L2.start (n0 :: nr) (V.ref a :: vr) = some (V.ref a) :: L2.start nr vr := by
        unfold L2.start
        simp only [List.map_cons, List.length_cons, List.cons_append]
        rw [Nat.add_sub_add_right]
      rw [es]
      have own0 : ∀ (i : Nat) (d : D), (Sl.own c :: rho0 nr ds)[i]? = some (.own d) → i = 0 ∧ c = d := fun i d z => by
        cases i with
        | zero =>
          rw [List.getElem?_cons_zero] at z
          cases z
          exact ⟨rfl, rfl⟩
        | succ i =>
          rw [List.getElem?_cons_succ] at z
          exact (rho0_own z).elim
      refine ⟨fun b o z => (less_some z).2, e, ?_, fun i d z => ?_, fun i d z => ?_, fun i j d d' b z1 z2 _ _ => (own0 i d z1).1.trans (own0 j d' z2).1.symm, fun b z => by cases z; rfl⟩
      · show (rho0 nr ds).length + 1 = (L2.start nr vr).length + 1
        rw [rho_start_len dn.length]
      · cases i with
        | zero =>
          rw [List.getElem?_cons_zero] at z
          cases z
        | succ i =>
          have z : (Sl.own c :: rho0 nr ds)[i + 1]? = some (.val d) := z
          rw [List.getElem?_cons_succ] at z
          obtain ⟨v, h1, h2⟩ := dn.get (rho0_val z)
          exact ⟨v, by rw [List.getElem?_cons_succ]; exact start_some h1, h2⟩
      · obtain ⟨z1, z2⟩ := own0 i d z
        subst z1 z2
        exact ⟨a, rfl, oa, na, less_at⟩
    have last : ∀ {ρ' : Rho} {σ' : L2.St} {Hs' H' : Hp}, ρ'[0]? = some (.own c') → EnvOk K (some a) ρ' σ' (less H a) Hs' H' → ExF (less H a) Hs Hs' → GrA a H H' Hs Hs' ∧ OwnAt K Hs' H' a c' := fun {ρ' σ' Hs' H'} z E' g => by
      obtain ⟨b, h1, h2, h3, h4⟩ := E'.own 0 c' z
      have h5 := E'.io a rfl
      rw [h1] at h5
      cases h5
      refine ⟨⟨fun b o nb z => E'.fr b o (by rw [less_ne nb]; exact z), E'.st, g.ex, fun b o z n => ?_⟩, h2⟩
      by_cases hb : b = a
      · subst hb; exact h3
      · exact g.nw b o (by rw [less_ne hb]; exact z) n
    refine ⟨_, hb cdv A outer s H hr hG c ds r c' h, some a, less H a, Hs, (fun z => Bool.noConfusion z), E0, fun ρ' σ' Hs' H' n E' g => ?_, fun r' ρ' v σ' Hs' H' n E' g z => ?_, fun _ _ _ _ z => False.elim z, fun _ _ _ _ z => False.elim z⟩
    · have n : r = .val .non ∧ ρ'[0]? = some (.own c') := n
      obtain ⟨n, z⟩ := n
      subst n
      obtain ⟨g1, g2⟩ := last z E' g
      exact q _ Hs' H' g1 g2 .non
    · have n : r' = r ∧ ρ'[0]? = some (.own c') := n
      obtain ⟨n, y⟩ := n
      subst n
      obtain ⟨g1, g2⟩ := last y E' g
      refine q v Hs' H' g1 g2 ?_
      cases r' with
      | val d => exact z
      | own d =>
        obtain ⟨p, rfl, h1, h2, h3, h4⟩ := z
        refine ⟨p, rfl, ?_, h2, h1⟩
        have np : p ≠ a := fun e => h4 0 c' y (e ▸ E'.io a rfl)
        rw [less_ne np] at h3
        exact h3
  · exact absurd h (hN c ds r c')
end

/-! ### calls -/
section
variable {X : Cx} {ρ ρ1 ρ2 : Rho} {pos p apos : Pos} {e o : Expr} {es : List Expr} {r : Res} {d c c' : D} {as dds : List D} {dvs : List V} {x m : Str} {C : Addr} {k j : Nat} {S : List D → Res → Prop} {T : D → List D → Res → D → Prop} {gd : Bool}
theorem dens_nil {K : PySem.W.Frag} (H : Hp) : Dens K H [] [] := .nil
theorem dens_int1 {K : PySem.W.Frag} (i : Int) (H : Hp) : Dens K H [.int i] [.int i] := .cons (.int i) .nil
theorem dens_non1 {K : PySem.W.Frag} (H : Hp) : Dens K H [.non] [.non] := .cons .non .nil
/-- f(e, ..) -/
theorem pd_call (c : Cal gd X.prog X.w X.K X.mg X.base k x (spD X.K S) dvs) (hr : Room j X.A) (ha : PAD X (e :: es) ρ as ρ1) (hS : S (as ++ dds) r) (hdv : ∀ H, Dens X.K H dvs dds := by exact fun _ => .nil) (nog : gd = true → X.A.guards = some [] := by first | exact fun z => Bool.noConfusion z | assumption) (hk : k ≤ j := by decide) (hg : Gl X x := by rfl)
    (hdb : (x == ("__debug__" : Str)) = false := by decide) (he : starEach (e :: es) X.env = (false, eval e X.env) :: starEach es X.env := by rfl) (hpl : (backTo pos (starEach es X.env)).any (·.1) = false := by rfl) : PD X (.Call (.Name x p) (e :: es) [] pos) ρ r ρ1 :=
  pe_imp (pe_c c hr nog hk hg ha hdb he hpl) fun σ H Q ⟨io, Hf, Hs, E, kk⟩ => ⟨io, Hf, Hs, E, fun vs Hs1 H1 E1 f1 q1 => ⟨as ++ dds, r, Hs1, hS, E1.st, q1.append (hdv _), fun w Hs2 H2 g q => by
    obtain ⟨E2, f2⟩ := E1.gr g
    exact kk w Hs2 H2 E2 (f1.trans f2) (E1.ret q)⟩⟩
/-- f() -/
theorem pd_call0 (c : Cal gd X.prog X.w X.K X.mg X.base k x (spD X.K S) dvs) (hr : Room j X.A) (hS : S dds r) (hdv : ∀ H, Dens X.K H dvs dds := by exact fun _ => .nil) (nog : gd = true → X.A.guards = some [] := by first | exact fun z => Bool.noConfusion z | assumption) (hk : k ≤ j := by decide) (hg : Gl X x := by rfl)
    (hdb : (x == ("__debug__" : Str)) = false := by decide) : PD X (.Call (.Name x p) [] [] pos) ρ r ρ :=
  pe_imp (pe_c0 c hr nog hk hg hdb) fun σ H Q ⟨io, Hf, Hs, E, kk⟩ => ⟨dds, r, Hs, hS, E.st, hdv _, fun w Hs2 H2 g q => by
    obtain ⟨E2, f2⟩ := E.gr g
    exact kk w Hs2 H2 E2 f2 (E.ret q)⟩
/-- o.m(e, ..) -/
theorem pd_meth {fs : List (Str × D)} {pl : Sem Bool} (c : Met X.prog X.w X.K X.mg X.base k C m (spD X.K S) dvs) (hr : Room j X.A) (ho : PD X o ρ (.val (.obj C fs)) ρ1) (hn : fs.lookup m = none) (ha : PAD X (e :: es) ρ1 as ρ2) (hS : S (.obj C fs :: (as ++ dds)) r)
    (hdv : ∀ H, Dens X.K H dvs dds := by exact fun _ => .nil) (hk : k ≤ j := by decide) (hst : starEach (e :: es) X.env = (false, eval e X.env) :: starEach es X.env := by rfl) (hpl : (backTo pos (starEach es X.env)).any (·.1) = false := by rfl)
    (ht : eval (.Call (.Attribute o m apos) (e :: es) [] pos) X.env = (do
      let ov ← eval o X.env
      standAt apos.atName
      let (f, first) ← holding [ov] (getMethod ov m pl)
      callWith pos f first (backTo pos (starEach (e :: es) X.env)) (backToKw pos (keywordEach [] X.env))) := by rfl) : PD X (.Call (.Attribute o m apos) (e :: es) [] pos) ρ r ρ2 :=
  pe_imp (pe_mt (pl := pl) c hr hk ho ha hst hpl ht) fun σ H Q ⟨io, Hf, Hs, E, kk⟩ => ⟨io, Hf, Hs, E, fun v Hs1 H1 E1 f1 q1 => by
    have q0 := q1
    cases q1 with
    | @obj a _ dx fv _ h1 h2 =>
      exact ⟨a, dx, fv, rfl, E1.st _ _ h1, h2.nolook hn, io, Hf, Hs1, E1, fun vs Hs2 H2 E2 f2 q2 => ⟨_, r, Hs2, hS, E2.st, .cons (Den.mono f2.ex q0) (q2.append (hdv _)), fun w Hs3 H3 g q => by
        obtain ⟨E3, f3⟩ := E2.gr g
        exact kk w Hs3 H3 E3 ((f1.trans f2).trans f3) (E2.ret q)⟩⟩⟩
/-- o.m() -/
theorem pd_meth0 {fs : List (Str × D)} {pl : Sem Bool} (c : Met X.prog X.w X.K X.mg X.base k C m (spD X.K S) dvs) (hr : Room j X.A) (ho : PD X o ρ (.val (.obj C fs)) ρ1) (hn : fs.lookup m = none) (hS : S (.obj C fs :: dds) r)
    (hdv : ∀ H, Dens X.K H dvs dds := by exact fun _ => .nil) (hk : k ≤ j := by decide)
    (ht : eval (.Call (.Attribute o m apos) [] [] pos) X.env = (do
      let ov ← eval o X.env
      standAt apos.atName
      let (f, first) ← holding [ov] (getMethod ov m pl)
      callWith pos f first (backTo pos (starEach [] X.env)) (backToKw pos (keywordEach [] X.env))) := by rfl) : PD X (.Call (.Attribute o m apos) [] [] pos) ρ r ρ1 :=
  pe_imp (pe_mt0 (pl := pl) c hr hk ho ht) fun σ H Q ⟨io, Hf, Hs, E, kk⟩ => ⟨io, Hf, Hs, E, fun v Hs1 H1 E1 f1 q1 => by
    have q0 := q1
    cases q1 with
    | @obj a _ dx fv _ h1 h2 =>
      exact ⟨a, dx, fv, rfl, E1.st _ _ h1, h2.nolook hn, _, r, Hs1, hS, E1.st, .cons q0 (hdv _), fun w Hs3 H3 g q => by
        obtain ⟨E3, f3⟩ := E1.gr g
        exact kk w Hs3 H3 E3 (f1.trans f3) (E1.ret q)⟩⟩
/-- C(e, ..): a new instance, owned -/
theorem pd_make {fs : List (Str × D)} (c : Mak X.prog X.w X.K X.mg X.base k x C (spIO X.K T) dvs) (hr : Room j X.A) (ha : PAD X (e :: es) ρ as ρ1) (hT : T (.obj C []) (as ++ dds) (.val .non) (.obj C fs)) (hdv : ∀ H, Dens X.K H dvs dds := by exact fun _ => .nil) (hk : k + 1 ≤ j := by decide) (hg : Gl X x := by rfl)
    (hdb : (x == ("__debug__" : Str)) = false := by decide) (he : starEach (e :: es) X.env = (false, eval e X.env) :: starEach es X.env := by rfl) (hpl : (backTo pos (starEach es X.env)).any (·.1) = false := by rfl) : PD X (.Call (.Name x p) (e :: es) [] pos) ρ (.own (.obj C fs)) ρ1 :=
  pe_imp (pe_mk c hr hk hg ha hdb he hpl) fun σ H Q ⟨io, Hf, Hs, E, kk⟩ => ⟨io, Hf, Hs, E, fun vs Hs1 H1 E1 f1 q1 => fun y dx ny ndx nxy => by
    have e1 : Ex H1 (upd (upd H1 dx (.own y)) y (.ins C dx [])) := fun b u z => by
      rw [upd_ne (ne_of_none z ny), upd_ne (ne_of_none z ndx)]
      exact z
    refine ⟨y, _, _, _, _, _, Hs1, rfl, hT, E1.st.trans e1, E1.st.none ny, ⟨dx, [], upd_same, .nil⟩, q1.append (hdv _), fun w Hs2 H2 g o q => ?_⟩
    cases q
    have g1 : Gr H1 H2 Hs1 Hs2 := ⟨fun b u z => g.ex b u (ne_of_none z ny) (e1 b u z), g.st, g.s, fun b u z n => g.nw b u (e1 b u z) n⟩
    obtain ⟨E2, f2⟩ := E1.gr g1
    exact ⟨rfl, kk _ Hs2 H2 E2 (f1.trans f2) (E1.ret (r := .own (.obj C fs)) ⟨y, rfl, ny, g.nw y _ upd_same (E1.st.none ny), o⟩)⟩⟩
/-- an owned slot's object is handed to a def that changes it -/
theorem pd_callIO (i : Nat) {x0 : Str} {p0 : Pos} {c0 : D} (cl : Cal gd X.prog X.w X.K X.mg X.base k x (spIO X.K T) dvs) (hr : Room j X.A) (h0 : ρ[i]? = some (.own c0)) (ha : PAD X es ρ as ρ1) (h1 : ρ1[i]? = some (.own c)) (hT : T c (as ++ dds) r c')
    (hdv : ∀ H, Dens X.K H dvs dds := by exact fun _ => .nil) (nog : gd = true → X.A.guards = some [] := by first | exact fun z => Bool.noConfusion z | assumption) (hk : k ≤ j := by decide) (hg : Gl X x := by rfl) (hN : X.N[i]? = some x0 := by rfl)
    (hv : Vis X.env.scope x0 := by first | exact Or.inl rfl | exact Or.inr (Or.inl rfl) | exact Or.inr (Or.inr rfl)) (hd : (x0 == ("__debug__" : Str)) = false := by decide) (hcd : (x0 == ("__classdict__" : Str)) = false := by decide)
    (hdb : (x == ("__debug__" : Str)) = false := by decide) (he : starEach (.Name x0 p0 :: es) X.env = (false, eval (.Name x0 p0) X.env) :: starEach es X.env := by rfl) (hpl : (backTo pos (starEach es X.env)).any (·.1) = false := by rfl) :
    PD X (.Call (.Name x p) (.Name x0 p0 :: es) [] pos) ρ r (ρ1.set i (.own c')) :=
  pe_imp (pe_c cl hr nog hk hg (pa_cons (pe_var hN hv hd hcd) ha he) hdb he hpl) fun σ H Q ⟨io, Hf, Hs, E, kk⟩ => by
    obtain ⟨a, g1, g2, g3, g4⟩ := E.own i c0 h0
    refine ⟨.ref a, g1, io, Hf, Hs, E, fun vs Hs1 H1 E1 f1 q1 => ?_⟩
    obtain ⟨a', y1, y2, y3, y4⟩ := E1.own i c h1
    rw [g1] at y1
    cases y1
    refine ⟨a, _, _, _, _, _, Hs1, rfl, hT, E1.st, y3, y2, q1.append (hdv _), fun w Hs2 H2 g o q => ?_⟩
    have hl : i < ρ1.length := (List.getElem?_eq_some_iff.mp h1).1
    have nf : ∀ (Z : Hp), Z a = none → Ex Z H1 → Ex Z H2 := fun Z n z b u y => g.ex b u (ne_of_none y n) (z b u y)
    have E2 : EnvOk X.K io (ρ1.set i (.own c')) σ Hf Hs2 H2 := by
      refine ⟨nf _ y4 E1.fr, g.st, by rw [List.length_set]; exact E1.len, fun n d z => ?_, fun n d z => ?_, fun n n' d d' b z1 z2 z3 z4 => ?_, E1.io⟩
      · by_cases hn : i = n
        · subst hn
          rw [List.getElem?_set_self hl] at z
          cases z
        · rw [get_set_ne hn] at z
          obtain ⟨v, w1, w2⟩ := E1.val n d z
          exact ⟨v, w1, w2.mono g.s⟩
      · by_cases hn : i = n
        · subst hn
          rw [List.getElem?_set_self hl] at z
          cases z
          obtain ⟨u, hu⟩ := y2.there
          exact ⟨a, g1, o, g.nw a u hu y3, y4⟩
        · rw [get_set_ne hn] at z
          obtain ⟨b, w1, w2, w3, w4⟩ := E1.own n d z
          have nb : b ≠ a := fun e => by
            subst e
            exact hn (E1.sep i n c d b h1 z g1 w1)
          obtain ⟨u, hu⟩ := w2.there
          exact ⟨b, w1, w2.mono g.s fun o' z' => g.ex b o' nb z', g.nw b u hu w3, w4⟩
      · have back : ∀ (n : Nat) (dd : D), (ρ1.set i (Sl.own c'))[n]? = some (Sl.own dd) → ∃ d1, ρ1[n]? = some (Sl.own d1) := fun n dd z => by
          by_cases hn : i = n
          · subst hn; exact ⟨c, h1⟩
          · rw [get_set_ne hn] at z; exact ⟨dd, z⟩
        obtain ⟨e1, w1⟩ := back n d z1
        obtain ⟨e2, w2⟩ := back n' d' z2
        exact E1.sep n n' e1 e2 b w1 w2 z3 z4
    refine kk w Hs2 H2 E2 (f1.trans ⟨g.s, fun b u z n => g.nw b u (E1.fr b u z) n⟩) ?_
    cases r with
    | val d => exact q
    | own d =>
      obtain ⟨pp, rfl, w1, w2, w3⟩ := q
      refine ⟨pp, rfl, w3, w2, E1.fr.none w1, fun n e z y => ?_⟩
      have : ∃ b, σ[n]? = some (some (V.ref b)) ∧ ∃ u, H1 b = some u := by
        by_cases hn : i = n
        · subst hn; exact ⟨a, g1, y2.there⟩
        · rw [get_set_ne hn] at z
          obtain ⟨b, v1, v2, _⟩ := E1.own n e z
          exact ⟨b, v1, v2.there⟩
      obtain ⟨b, v1, u, v2⟩ := this
      rw [v1] at y
      cases y
      rw [w1] at v2
      cases v2
/-- a new object is handed to a def that changes it; nothing else is handed -/
theorem pd_callT {a0 : Expr} (cl : Cal gd X.prog X.w X.K X.mg X.base k x (spIO X.K T) dvs) (hr : Room j X.A) (ha : PD X a0 ρ (.own c) ρ1) (hT : T c dds r c')
    (hdv : ∀ H, Dens X.K H dvs dds := by exact fun _ => .nil) (nog : gd = true → X.A.guards = some [] := by first | exact fun z => Bool.noConfusion z | assumption) (hk : k ≤ j := by decide) (hg : Gl X x := by rfl)
    (hdb : (x == ("__debug__" : Str)) = false := by decide) (he : starEach [a0] X.env = (false, eval a0 X.env) :: starEach [] X.env := by rfl) (hpl : (backTo pos (starEach [] X.env)).any (·.1) = false := by rfl) :
    PD X (.Call (.Name x p) [a0] [] pos) ρ r ρ1 :=
  pe_imp (pe_c cl hr nog hk hg (pa_cons ha pa_nil he) hdb he hpl) fun σ H Q ⟨io, Hf, Hs, E, kk⟩ => ⟨io, Hf, Hs, E, fun v Hs1 H1 E1 f1 q1 => by
    obtain ⟨a, rfl, y2, y3, y4, y5⟩ := q1
    refine ⟨a, _, _, _, _, _, Hs1, rfl, hT, E1.st, y3, y2, hdv _, fun w Hs2 H2 g o q => ?_⟩
    have E2 : EnvOk X.K io ρ1 σ Hf Hs2 H2 := by
      refine ⟨fun b u z => g.ex b u (ne_of_none z y4) (E1.fr b u z), g.st, E1.len, fun n d z => ?_, fun n d z => ?_, E1.sep, E1.io⟩
      · obtain ⟨v, w1, w2⟩ := E1.val n d z
        exact ⟨v, w1, w2.mono g.s⟩
      · obtain ⟨b, w1, w2, w3, w4⟩ := E1.own n d z
        have nb : b ≠ a := fun e => y5 n d z (e ▸ w1)
        obtain ⟨u, hu⟩ := w2.there
        exact ⟨b, w1, w2.mono g.s fun o' z' => g.ex b o' nb z', g.nw b u hu w3, w4⟩
    refine kk w Hs2 H2 E2 (f1.trans ⟨g.s, fun b u z n => g.nw b u (E1.fr b u z) n⟩) ?_
    cases r with
    | val d => exact q
    | own d =>
      obtain ⟨pp, rfl, w1, w2, w3⟩ := q
      exact ⟨pp, rfl, w3, w2, E1.fr.none w1, E1.noOwn w1⟩⟩
/-- e.f, a property -/
theorem pd_prop {f : Str} {pp g : Addr} {fd : FuncData} {ps : List Str} {fs : List (Str × D)} (ho : PD X e ρ (.val (.obj C fs)) ρ1) (cl : Cls X.K C) (hp : PropOf X.K C f pp g) (F : FnOk X.prog X.w X.K X.mg X.base CX0 k g fd ps (spD X.K S)) (hb : Binds X.K fd ps []) (hr : Room j X.A) (hS : S [.obj C fs] r)
    (hk : k + 1 ≤ j := by decide) (hab : attributeBase e f X.env (eval e X.env) = eval e X.env := by rfl) : PD X (.Attribute e f pos) ρ r ρ1 :=
  pe_imp (pe_prop (E := E0) ho cl hp F (hr.mono hk) hb .nil pass0 hab) fun σ H Q ⟨io, Hf, Hs, E, kk⟩ => ⟨io, Hf, Hs, E, fun v Hs1 H1 E1 f1 q1 => by
    have q0 := q1
    cases q1 with
    | @obj a _ dx fv _ h1 h2 =>
      exact ⟨a, dx, fv, rfl, E1.st _ _ h1, _, r, Hs1, hS, E1.st, .cons q0 .nil, fun w Hs3 H3 g q => by
        obtain ⟨E3, f3⟩ := E1.gr g
        exact kk w Hs3 H3 E3 (f1.trans f3) (E1.ret q)⟩⟩
end
/-- self.f = e, self an owned instance -/
theorem ps1_fld {X : Cx} {bi : Bool} {ρ ρ1 : Rho} {k : Kn} {pos p : Pos} {e : Expr} {d : D} (i : Nat) {x f : Str} {C : Addr} {fs : List (Str × D)} (cl : Cls X.K C) (n : NoAttr X.K C f) (he : PD X e ρ (.val d) ρ1) (h1 : ρ1[i]? = some (.own (.obj C fs)) := by rfl) (hz : fs.length < 1000 := by first | decide | exact Nat.le_of_ble_eq_true rfl)
    (hk : k.nx (ρ1.set i (.own (.obj C (putD f d fs)))) := by rfl) (hN : X.N[i]? = some x := by rfl)
    (hv : Vis X.env.scope x := by first | exact Or.inl rfl | exact Or.inr (Or.inl rfl) | exact Or.inr (Or.inr rfl)) {pos' : Pos} (hs : swapsWith e (some (.Attribute (.Name x p) f pos')) pos.line X.env = pure false := by rfl) (hd : (x == ("__debug__" : Str)) = false := by decide) (hcd : (x == ("__classdict__" : Str)) = false := by decide) :
    PS1 X bi (.Assign [.Attribute (.Name x p) f pos'] e pos) ρ k :=
  ps_imp (ps_fld (pe_var hN hv hd hcd) he hs) fun Z σ H ⟨io, Hf, Hs, hb, E, kk⟩ => ⟨io, Hf, Hs, E, fun v Hs1 H1 E1 f1 q1 => by
    obtain ⟨a, g1, g2, g3, g4⟩ := E1.own i _ h1
    obtain ⟨dx, gs, y1, y2⟩ := g2
    exact ⟨_, g1, a, C, dx, gs, rfl, y1, cl, n, by rw [y2.length]; exact hz, kk.nx _ _ Hs1 _ hk (E1.change h1 g1 ⟨dx, _, upd_same, y2.put q1⟩) f1⟩⟩
end Dn
end

section
set_option Elab.async false
set_option linter.all false
set_option maxRecDepth 100000
set_option maxHeartbeats 2000000
/-! DLoop: targets, for, while, comprehensions over data. -/
namespace Dn
open PySem PySem.Spec L2

/-! ### targets -/
def Out (ts : List Nat) (σ σ' : L2.St) : Prop := σ'.length = σ.length ∧ ∀ j, j ∉ ts → σ'[j]? = σ[j]?
theorem Out.refl {ts : List Nat} {σ : L2.St} : Out ts σ σ := ⟨rfl, fun _ _ => rfl⟩
theorem Out.trans {ts us : List Nat} {σ σ1 σ2 : L2.St} (a : Out ts σ σ1) (b : Out us σ1 σ2) : Out (ts ++ us) σ σ2 :=
  ⟨b.1.trans a.1, fun j h => (b.2 j fun z => h (List.mem_append_right _ z)).trans (a.2 j fun z => h (List.mem_append_left _ z))⟩
/-- d stored at ρ gives ρ' -/
def rdG (K : PySem.W.Frag) (bi : Bool) (ts : List Nat) (f : D → Rho → Rho → Prop) : TG := fun v σ H Q => ∃ io Hf Hs ρ ρ' d, (bi = false → io = none) ∧ EnvOk K io ρ σ Hf Hs H ∧ Den K Hs v d ∧ f d ρ ρ' ∧ ∀ σ' H', EnvOk K io ρ' σ' Hf Hs H' → Out ts σ σ' → Q σ' H'
def rdGs (K : PySem.W.Frag) (bi : Bool) (ts : List Nat) (f : List D → Rho → Rho → Prop) : TGs := fun vs σ H Q => ∃ io Hf Hs ρ ρ' ds, (bi = false → io = none) ∧ EnvOk K io ρ σ Hf Hs H ∧ Dens K Hs vs ds ∧ f ds ρ ρ' ∧ ∀ σ' H', EnvOk K io ρ' σ' Hf Hs H' → Out ts σ σ' → Q σ' H'
def PGD (X : Cx) (bi : Bool) (tg : Expr) (ts : List Nat) (f : D → Rho → Rho → Prop) : Prop := PG X tg (rdG X.K bi ts f)
def PGsD (X : Cx) (bi : Bool) (tgs : List Expr) (ts : List Nat) (f : List D → Rho → Rho → Prop) : Prop := PGs X tgs (rdGs X.K bi ts f)
def tgName (i : Nat) : D → Rho → Rho → Prop := fun d ρ ρ' => ρ' = ρ.set i (.val d)
def tgNil : List D → Rho → Rho → Prop := fun ds ρ ρ' => ds = [] ∧ ρ' = ρ
def tgCons (f : D → Rho → Rho → Prop) (g : List D → Rho → Rho → Prop) : List D → Rho → Rho → Prop := fun ds ρ ρ' => ∃ d r ρ1, ds = d :: r ∧ f d ρ ρ1 ∧ g r ρ1 ρ'
def tgTup (f : List D → Rho → Rho → Prop) (n : Nat) : D → Rho → Rho → Prop := fun d ρ ρ' => ∃ ds, (d = .tup ds ∨ d = .tupK ds) ∧ ds.length = n ∧ f ds ρ ρ'
/-- xs[k] = d, xs owned, k written -/
def tgSub (i : Nat) (k : Int) : D → Rho → Rho → Prop := fun d ρ ρ' => ∃ ds j, ρ[i]? = some (.own (.lst ds)) ∧ ixN ds.length k = some j ∧ ρ' = ρ.set i (.own (.lst (ds.set j d)))
section
variable {X : Cx} {bi : Bool} {pos : Pos} {tg : Expr} {tgs : List Expr} {ts us : List Nat} {f : D → Rho → Rho → Prop} {g : List D → Rho → Rho → Prop}
theorem pg_imp {t t' : TG} (h : PG X tg t) (i : ∀ v σ H Q, t' v σ H Q → t v σ H Q) : PG X tg t' := ⟨fun pins s σ H v u Q I r q => h.run pins s σ H v u Q I r (i v σ H Q q)⟩
theorem pgs_imp {t t' : TGs} (h : PGs X tgs t) (i : ∀ v σ H Q, t' v σ H Q → t v σ H Q) : PGs X tgs t' := ⟨fun pins s σ H v u Q I r q => h.run pins s σ H v u Q I r (i v σ H Q q)⟩
theorem pgd_name (i : Nat) {x : Str} (hN : X.N.Nodup) (hi : X.N[i]? = some x := by rfl) (hx : Loc X.env.scope x := by first | exact Or.inl rfl | exact Or.inr rfl) (hio : i ≠ 0 ∨ bi = false := by first | exact Or.inl (by decide) | exact Or.inr rfl)
    (hf : X.fn x = true ∨ X.env.scope.names.lookup x = some .local := by first | exact .inl rfl | exact .inr rfl) : PGD X bi (.Name x pos) [i] (tgName i) :=
  pg_imp (pg_name hN hi hx hf) fun v σ H Q ⟨io, Hf, Hs, ρ, ρ', d, hb, E, h, hf, k⟩ => by
    have hf : ρ' = ρ.set i (.val d) := hf
    subst hf
    exact k _ _ (E.setv h (hio.imp_right hb)) ⟨List.length_set, fun j hj => get_set_ne fun e => hj (by rw [e]; simp)⟩
theorem pgd_nil : PGsD X bi [] [] tgNil := pgs_imp pgs_nil fun vs σ H Q ⟨io, Hf, Hs, ρ, ρ', ds, hb, E, h, ⟨h1, h2⟩, k⟩ => by
  subst h1 h2
  cases h
  exact ⟨rfl, k _ _ E Out.refl⟩
theorem pgd_cons (h1 : PGD X bi tg ts f) (h2 : PGsD X bi tgs us g) (hs : (assignEach (tg :: tgs) X.env).map (·.2) = assign tg X.env :: (assignEach tgs X.env).map (·.2) := by rfl) : PGsD X bi (tg :: tgs) (ts ++ us) (tgCons f g) :=
  pgs_imp (pgs_cons h1 h2 hs) fun vs σ H Q ⟨io, Hf, Hs, ρ, ρ', ds, hb, E, h, ⟨d, r, ρ1, e, hf, hg⟩, k⟩ => by
    subst e
    cases h with
    | cons a b => exact ⟨_, _, rfl, io, Hf, Hs, ρ, ρ1, d, hb, E, a, hf, fun σ1 H1 E1 o1 => ⟨io, Hf, Hs, ρ1, ρ', r, hb, E1, b, hg, fun σ2 H2 E2 o2 => k σ2 H2 E2 (o1.trans o2)⟩⟩
theorem pgd_tup {k n : Nat} (hc : X.calm = true) (h : PGsD X bi tgs ts g) (hn : (assignEach tgs X.env).length = n := by rfl) (hst : (assignEach tgs X.env).findIdx? (·.1) = none := by rfl) : PGD X bi (.Tuple tgs k pos) ts (tgTup g n) :=
  pg_imp (pg_tup hc h hn hst) fun v σ H Q ⟨io, Hf, Hs, ρ, ρ', d, hb, E, h, ⟨ds, e, hl, hg⟩, k⟩ => by
    obtain ⟨a, vs, rfl, q1, q2⟩ := Den.seqT (K := X.K) (H := Hs) (v := v) (ds := ds) (by rcases e with e | e; (subst e; exact .inl h); (subst e; exact .inr h))
    exact ⟨a, vs, rfl, ex_t E.st q1, q2.length.trans hl, io, Hf, Hs, ρ, ρ', ds, hb, E, q2, hg, k⟩
theorem pgd_subC (i : Nat) {x : Str} {p p2 : Pos} {k : Int} {m : Nat} (hN : X.N[i]? = some x := by rfl) (hv : Vis X.env.scope x := by first | exact Or.inl rfl | exact Or.inr (Or.inl rfl) | exact Or.inr (Or.inr rfl))
    (hd : (x == ("__debug__" : Str)) = false := by decide) (hcd : (x == ("__classdict__" : Str)) = false := by decide)
    (ha : ∀ v, assign (.Subscript (.Name x p) (.Constant (.int k) m p2) pos) X.env v = (do
      let ov ← holding [v] (eval (.Name x p) X.env)
      let iv ← holding [v, ov] (eval (.Constant (.int k) m p2) X.env)
      standAt pos
      holding [v, ov, iv] (setItem ov iv v)
      release [v, ov, iv] []) := by intro _; rfl) : PGD X bi (.Subscript (.Name x p) (.Constant (.int k) m p2) pos) [] (tgSub i k) :=
  pg_imp (pg_sub (pe_var hN hv hd hcd) pe_int set_list ha) fun v σ H Q ⟨io, Hf, Hs, ρ, ρ', d, hb, E, h, ⟨ds, j, h1, h2, h3⟩, kk⟩ => by
    obtain ⟨a, g1, ⟨vs, y1, y2⟩, g3, g4⟩ := E.own i _ h1
    subst h3
    exact ⟨_, g1, a, vs, k, j, rfl, rfl, y1, by rw [y2.length]; exact h2, kk _ _ (E.change h1 g1 ⟨_, upd_same, y2.set j h⟩) Out.refl⟩
theorem ps1_asg {ρ ρ1 ρ2 : Rho} {k : Kn} {e : Expr} {d : D} (he : PD X e ρ (.val d) ρ1) (hg : PGD X bi tg ts f) (hf : f d ρ1 ρ2) (hk : k.nx ρ2 := by rfl) (hs : swapsWithSole [tg] e pos.line X.env = pure false := by rfl) (hw : swappedStores [tg] e X.env = pure none := by rfl)
    (h1 : (assignEach [tg] X.env).map (·.2) = [assign tg X.env] := by rfl) : PS1 X bi (.Assign [tg] e pos) ρ k :=
  ps_imp (ps_asg he hg hs hw h1) fun Z σ H ⟨io, Hf, Hs, hb, E, kk⟩ => ⟨io, Hf, Hs, E, fun v Hs1 H1 E1 f1 q1 => ⟨io, Hf, Hs1, ρ1, ρ2, d, hb, E1, q1, hf, fun σ2 H2 E2 _ => kk.nx _ _ Hs1 H2 hk E2 f1⟩⟩
/-- xs[i] = e, xs owned, any int -/
theorem ps1_sub {ρ ρ1 ρ2 : Rho} {k : Kn} {e ix : Expr} {d : D} (i : Nat) {x : Str} {p pt : Pos} {ds : List D} {z : Int} {j : Nat} (he : PD X e ρ (.val d) ρ1) (hi : PD X ix ρ1 (.val (.int z)) ρ2) (h0 : ∃ d0, ρ1[i]? = some (.own d0) := by exact ⟨_, rfl⟩) (h1 : ρ2[i]? = some (.own (.lst ds)) := by rfl) (hj : ixN ds.length z = some j)
    (hk : k.nx (ρ2.set i (.own (.lst (ds.set j d)))) := by rfl) (hN : X.N[i]? = some x := by rfl) (hv : Vis X.env.scope x := by first | exact Or.inl rfl | exact Or.inr (Or.inl rfl) | exact Or.inr (Or.inr rfl))
    (hd : (x == ("__debug__" : Str)) = false := by decide) (hcd : (x == ("__classdict__" : Str)) = false := by decide) (hs : swapsWithSole [.Subscript (.Name x p) ix pt] e pos.line X.env = pure false := by rfl) (hw : swappedStores [.Subscript (.Name x p) ix pt] e X.env = pure none := by rfl)
    (ha : ∀ v, assign (.Subscript (.Name x p) ix pt) X.env v = (do
      let ov ← holding [v] (eval (.Name x p) X.env)
      let iv ← holding [v, ov] (eval ix X.env)
      standAt pt
      holding [v, ov, iv] (setItem ov iv v)
      release [v, ov, iv] []) := by intro _; rfl) (hm : (assignEach [.Subscript (.Name x p) ix pt] X.env).map (·.2) = [assign (.Subscript (.Name x p) ix pt) X.env] := by rfl) : PS1 X bi (.Assign [.Subscript (.Name x p) ix pt] e pos) ρ k :=
  ps_imp (ps_asg he (pg_sub (pe_var hN hv hd hcd) hi set_list ha) hs hw hm) fun Z σ H ⟨io, Hf, Hs, hb, E, kk⟩ => ⟨io, Hf, Hs, E, fun v Hs1 H1 E1 f1 q1 => by
    obtain ⟨d0, h0⟩ := h0
    obtain ⟨a, g1, _⟩ := E1.own i _ h0
    refine ⟨_, g1, io, Hf, Hs1, E1, fun w Hs2 H2 E2 f2 q2 => ?_⟩
    obtain ⟨a', g1', ⟨vs, y1, y2⟩, g3, g4⟩ := E2.own i _ h1
    rw [g1] at g1'
    cases g1'
    cases q2
    exact ⟨a, vs, z, j, rfl, rfl, y1, by rw [y2.length]; exact hj, kk.nx _ _ Hs2 _ hk (E2.change h1 g1 ⟨_, upd_same, y2.set j (Den.mono f2.ex q1)⟩) (f1.trans f2)⟩⟩
end

/-! ### what is walked -/
abbrev YD (K : PySem.W.Frag) (xs : List D) (Hz : Hp) : Nat → Hp → V → Hp → Prop := fun i H v H' => ∃ d, xs[i]? = some d ∧ ∀ Hs, Ex Hz Hs → Ex Hs H → ∃ Hs2, Gr H H' Hs Hs2 ∧ Den K Hs2 v d
def WalkD (K : PySem.W.Frag) (J : It) (xs : List D) (Hz : Hp) : Prop := Walk J xs.length (fun H => Ex Hz H) (YD K xs Hz)
def rdI (K : PySem.W.Frag) (ρ : Rho) (xs : List D) (ρ' : Rho) : TI := fun σ H R => ∃ io Hf Hs, EnvOk K io ρ σ Hf Hs H ∧ ∀ J Hs' H', EnvOk K io ρ' σ Hf Hs' H' → ExF Hf Hs Hs' → WalkD K J xs Hs' → R J H'
def PID (X : Cx) (tg iter : Expr) (ρ : Rho) (xs : List D) (ρ' : Rho) : Prop := PI X tg iter (rdI X.K ρ xs ρ')
section
variable {X : Cx} {tg : Expr} {e a b : Expr} {ρ ρ1 ρ2 : Rho} {xs ys : List D} {p pos : Pos}
theorem pi_imp {t t' : TI} (h : PI X tg e t) (i : ∀ σ H Q, t' σ H Q → t σ H Q) : PI X tg e t' := ⟨fun pins s σ H Q I q => h.run pins s σ H Q I (i σ H Q q)⟩
theorem pid_list (h : PD X e ρ (.val (.lst xs)) ρ1) : PID X tg e ρ xs ρ1 := pi_imp (pi_list h) fun σ H Q ⟨io, Hf, Hs, E, k⟩ => ⟨io, Hf, Hs, E, fun v Hs1 H1 E1 f1 q1 => by
  obtain ⟨p, vs, rfl, q2, q3⟩ := Den.seqL (.inl q1)
  refine ⟨p, rfl, ⟨vs, ex_l E1.st q2⟩, k _ Hs1 H1 E1 f1 ?_⟩
  have w := walk_list (K := X.K) (a := p) (xs := vs)
  rw [q3.length] at w
  exact w.mono (fun H h => ex_l h q2) fun i H v H' hi hz y => by
    obtain ⟨e1, e2⟩ := y
    subst e1
    obtain ⟨d, d1, d2⟩ := q3.get' e2
    exact ⟨d, d1, fun Hs' z1 z2 => ⟨Hs', Gr.refl z2, d2.mono z1⟩⟩⟩
theorem pid_listK (h : PD X e ρ (.val (.lstK xs)) ρ1) : PID X tg e ρ xs ρ1 := pi_imp (pi_list h) fun σ H Q ⟨io, Hf, Hs, E, k⟩ => ⟨io, Hf, Hs, E, fun v Hs1 H1 E1 f1 q1 => by
  obtain ⟨p, vs, rfl, q2, q3⟩ := Den.seqL (.inr q1)
  refine ⟨p, rfl, ⟨vs, ex_l E1.st q2⟩, k _ Hs1 H1 E1 f1 ?_⟩
  have w := walk_list (K := X.K) (a := p) (xs := vs)
  rw [q3.length] at w
  exact w.mono (fun H h => ex_l h q2) fun i H v H' hi hz y => by
    obtain ⟨e1, e2⟩ := y
    subst e1
    obtain ⟨d, d1, d2⟩ := q3.get' e2
    exact ⟨d, d1, fun Hs' z1 z2 => ⟨Hs', Gr.refl z2, d2.mono z1⟩⟩⟩
theorem pid_tup (h : PD X e ρ (.val (.tup xs)) ρ1) : PID X tg e ρ xs ρ1 := pi_imp (pi_tup h) fun σ H Q ⟨io, Hf, Hs, E, k⟩ => ⟨io, Hf, Hs, E, fun v Hs1 H1 E1 f1 q1 => by
  obtain ⟨p, vs, rfl, q2, q3⟩ := Den.seqT (.inl q1)
  refine ⟨p, rfl, ⟨vs, ex_t E1.st q2⟩, k _ Hs1 H1 E1 f1 ?_⟩
  have w := walk_tup (K := X.K) (a := p) (xs := vs)
  rw [q3.length] at w
  exact w.mono (fun H h => ex_t h q2) fun i H v H' hi hz y => by
    obtain ⟨e1, e2⟩ := y
    subst e1
    obtain ⟨d, d1, d2⟩ := q3.get' e2
    exact ⟨d, d1, fun Hs' z1 z2 => ⟨Hs', Gr.refl z2, d2.mono z1⟩⟩⟩
/-- the ints lo, lo + 1, .. as data -/
def rng (lo : Int) (n : Nat) : List D := (List.range n).map fun i : Nat => D.int (lo + i)
theorem rng_len {lo : Int} {n : Nat} : (rng lo n).length = n := by unfold rng; rw [List.length_map, List.length_range]
theorem rng_get {lo : Int} {n i : Nat} (h : i < n) : (rng lo n)[i]? = some (D.int (lo + i)) := by
  unfold rng
  rw [List.getElem?_map, List.getElem?_range h]
  rfl
theorem walkd_range {K : PySem.W.Frag} {lo : Int} {n : Nat} {Hz : Hp} : WalkD K (Itr lo n) (rng lo n) Hz := by
  have w := walk_range (lo := lo) (n := n)
  unfold WalkD
  rw [rng_len]
  exact w.mono (fun _ _ => trivial) fun i H v H' hi hz y => by
    obtain ⟨e1, e2⟩ := y
    subst e1 e2
    exact ⟨_, rng_get hi, fun Hs' z1 z2 => ⟨Hs', Gr.refl z2, .int _⟩⟩
theorem pid_range1 {j : Int} (hm : X.mg "range" = none) (ha : PD X a ρ (.val (.int j)) ρ1) (h1 : -(2 ^ 62) ≤ j) (h2 : j < 2 ^ 62) (hg : Gl X "range" := by rfl) (hs : starEach [a] X.env = [(false, eval a X.env)] := by rfl)
    (hs2 : starEach [a] X.env = (false, eval a X.env) :: starEach [] X.env := by rfl) : PID X tg (.Call (.Name "range" p) [a] [] pos) ρ (rng 0 j.toNat) ρ1 :=
  pi_imp (pi_range1 hg hm (pad_cons ha pad_nil hs2) hs) fun σ H Q ⟨io, Hf, Hs, E, k⟩ => ⟨io, Hf, Hs, E, fun vs Hs1 H1 E1 f1 q1 => by
    cases q1 with
    | cons q q' =>
      cases q'
      cases q
      exact ⟨j, rfl, h1, h2, k _ Hs1 H1 E1 f1 walkd_range⟩⟩
theorem pid_range2 {i j : Int} (hm : X.mg "range" = none) (ha : PD X a ρ (.val (.int i)) ρ1) (hb : PD X b ρ1 (.val (.int j)) ρ2) (hz : -(2 ^ 62) ≤ i ∧ i < 2 ^ 62 ∧ -(2 ^ 62) ≤ j ∧ j < 2 ^ 62) (hg : Gl X "range" := by rfl)
    (hs : starEach [a, b] X.env = [(false, eval a X.env), (false, eval b X.env)] := by rfl) (hs2 : starEach [b] X.env = [(false, eval b X.env)] := by rfl)
    (h3 : starEach [a, b] X.env = (false, eval a X.env) :: starEach [b] X.env := by rfl) (h4 : starEach [b] X.env = (false, eval b X.env) :: starEach [] X.env := by rfl) : PID X tg (.Call (.Name "range" p) [a, b] [] pos) ρ (rng i (j - i).toNat) ρ2 :=
  pi_imp (pi_range2 hg hm (pad_cons ha (pad_cons hb pad_nil h4) h3) hs hs2) fun σ H Q ⟨io, Hf, Hs, E, k⟩ => ⟨io, Hf, Hs, E, fun vs Hs1 H1 E1 f1 q1 => by
    cases q1 with
    | cons q q' =>
      cases q' with
      | cons q2 q3 =>
        cases q3
        cases q
        cases q2
        exact ⟨i, j, rfl, hz, k _ Hs1 H1 E1 f1 walkd_range⟩⟩
theorem pairs_walk {K : PySem.W.Frag} {J : It} {n : Nat} {G : Hp → Prop} {xs ys : Nat → Option V} {zs : List D} {Hz : Hp} (w : Walk J n G (YPair xs ys)) (hn : n = zs.length) (hG : ∀ H, Ex Hz H → G H)
    (hy : ∀ i x y, i < n → xs i = some x → ys i = some y → ∃ d d', zs[i]? = some (.tup [d, d']) ∧ Den K Hz x d ∧ Den K Hz y d') : WalkD K J zs Hz := by
  subst hn
  refine w.mono hG fun i H v H' hi hz y => ?_
  obtain ⟨T, x, z, rfl, h2, rfl, h4, h5⟩ := y
  obtain ⟨d, d', e, q1, q2⟩ := hy i x z hi h4 h5
  refine ⟨_, e, fun Hs' z1 z2 => ⟨_, Gr.new z2 h2, .tup upd_same (.cons (q1.mono ?_) (.cons (q2.mono ?_) .nil))⟩⟩
  · exact z1.trans (Ex.new (z2.none h2))
  · exact z1.trans (Ex.new (z2.none h2))
end

/-! ### for -/
abbrev kFor (k : Kn) (Iv : Nat → Rho → Prop) (i : Nat) : Kn := { nx := Iv (i + 1), rt := k.rt, bk := k.nx, ct := Iv (i + 1) }
section
variable {X : Cx} {bi : Bool} {tg iter c : Expr} {body rest : List Stmt} {pos : Pos} {ts : List Nat} {f : D → Rho → Rho → Prop} {ρ ρ1 : Rho} {xs : List D} {k : Kn}
theorem ps1_for (Iv : Nat → Rho → Prop) (hp : PassesOwn (model X.prog X.w) X.A X.env X.xe) (hi : PID X tg iter ρ xs ρ1) (hg : PGD X bi tg ts f) (h0 : Iv 0 ρ1)
    (hb : ∀ i d ρ', xs[i]? = some d → Iv i ρ' → ∃ ρ2, f d ρ' ρ2 ∧ PSD X bi body ρ2 (kFor k Iv i)) (hd : ∀ ρ', Iv xs.length ρ' → k.nx ρ') (hc : X.calm = true := by rfl) (hs : ∀ x, foldedSetIterable iter X.env x = pure x := by intro _; rfl) : PS1 X bi (.For tg iter body [] pos) ρ k := by
  refine ps_imp (ps_for hp hc hi hg (pss_any (tf := fun a : { q : Nat × Rho // PSD X bi body q.2 (kFor k Iv q.1) } => rdS X.K bi a.1.2 (kFor k Iv a.1.1)) fun a => a.2) hs) fun Z σ H ⟨io, Hf, Hs, hio, E, kk⟩ => ⟨io, Hf, Hs, E, fun J Hs1 H1 E1 f1 w => ?_⟩
  refine for_it (g := rdG X.K bi ts f) (tb := fun Z σ H => ∃ a : { q : Nat × Rho // PSD X bi body q.2 (kFor k Iv q.1) }, rdS X.K bi a.1.2 (kFor k Iv a.1.1) Z σ H) (D := Z) w (fun i σ' H' => ∃ ρ' Hs', Iv i ρ' ∧ EnvOk X.K io ρ' σ' Hf Hs' H' ∧ ExF Hf Hs1 Hs') ⟨ρ1, Hs1, h0, E1, ExF.refl⟩ (fun i σ' H' _ ⟨ρ', Hs', _, E', f'⟩ => f'.ex.trans E'.st) ?_ (fun σ' H' ⟨ρ', Hs', iv, E', f'⟩ => kk.nx ρ' σ' Hs' H' (hd ρ' iv) E' (f1.trans f'))
  rintro i v σ' H' H2 hi' ⟨ρ', Hs', iv, E', f'⟩ ⟨d, hd', y⟩
  obtain ⟨Hs2, g, dd⟩ := y Hs' f'.ex E'.st
  obtain ⟨E2, f2⟩ := E'.gr g
  obtain ⟨ρ2, hf, hbody⟩ := hb i d ρ' hd' iv
  refine ⟨io, Hf, Hs2, ρ', ρ2, d, hio, E2, dd, hf, fun σ3 H3 E3 _ => ⟨⟨(i, ρ2), hbody⟩, io, Hf, Hs2, hio, E3, fun ρ4 σ4 Hs4 H4 q E4 f4 => ⟨ρ4, Hs4, q, E4, (f'.trans f2).trans f4⟩, fun r ρ4 w4 σ4 Hs4 H4 q E4 f4 z => ?_, fun ρ4 σ4 Hs4 H4 q E4 f4 => ?_, fun ρ4 σ4 Hs4 H4 q E4 f4 => ⟨ρ4, Hs4, q, E4, (f'.trans f2).trans f4⟩⟩⟩
  · exact kk.rt r ρ4 w4 σ4 Hs4 H4 q E4 (((f1.trans f').trans f2).trans f4) z
  · exact kk.nx ρ4 σ4 Hs4 H4 q E4 (((f1.trans f').trans f2).trans f4)
/-- in a block -/
theorem psd_for (Iv : Nat → Rho → Prop) (hp : PassesOwn (model X.prog X.w) X.A X.env X.xe) (hi : PID X tg iter ρ xs ρ1) (hg : PGD X bi tg ts f) (h0 : Iv 0 ρ1)
    (hb : ∀ i d ρ', xs[i]? = some d → Iv i ρ' → ∃ ρ2, f d ρ' ρ2 ∧ PSD X bi body ρ2 (kFor { k with nx := fun ρ' => PSD X bi rest ρ' k } Iv i)) (hd : ∀ ρ', Iv xs.length ρ' → PSD X bi rest ρ' k) (hc : X.calm = true := by rfl) (hs : ∀ x, foldedSetIterable iter X.env x = pure x := by intro _; rfl) :
    PSD X bi (.For tg iter body [] pos :: rest) ρ k := psd_cons (fun ρ' => PSD X bi rest ρ' k) (ps1_for Iv hp hi hg h0 hb hd hc hs) fun _ h => h

/-! ### while -/
abbrev kWhile (k : Kn) (Iv : Nat → Rho → Prop) (m : Nat) : Kn := { nx := fun ρ' => ∃ m', m' < m ∧ Iv m' ρ', rt := k.rt, bk := k.nx, ct := fun ρ' => ∃ m', m' < m ∧ Iv m' ρ' }
theorem pt_any {α : Type} {tf : α → TT} {e : Expr} (h : ∀ a, PT X e (tf a)) : PT X e (fun σ H Q => ∃ a, tf a σ H Q) := ⟨fun pins s σ H Q I ⟨a, q⟩ => (h a).run pins s σ H Q I q⟩
theorem ps1_while (Iv : Nat → Rho → Prop) (m0 : Nat) (hp : PassesOwn (model X.prog X.w) X.A X.env X.xe) (h0 : Iv m0 ρ)
    (ht : ∀ m ρ', Iv m ρ' → ∃ b ρ2, PTD X c ρ' b ρ2 ∧ (b = true → PSD X bi body ρ2 (kWhile k Iv m)) ∧ (b = false → k.nx ρ2)) : PS1 X bi (.While c body [] pos) ρ k := by
  refine ps_imp (ps_while hp (pt_any (tf := fun a : { q : Rho × Bool × Rho // PTD X c q.1 q.2.1 q.2.2 } => rdT X.K a.1.1 a.1.2.1 a.1.2.2) fun a => a.2)
    (pss_any (tf := fun a : { q : Nat × Rho // PSD X bi body q.2 (kWhile k Iv q.1) } => rdS X.K bi a.1.2 (kWhile k Iv a.1.1)) fun a => a.2)) fun Z σ H ⟨io, Hf, Hs, hio, E, kk⟩ => ?_
  refine ⟨fun m σ' H' => ∃ ρ' Hs', Iv m ρ' ∧ EnvOk X.K io ρ' σ' Hf Hs' H' ∧ ExF Hf Hs Hs', ⟨m0, ρ, Hs, h0, E, ExF.refl⟩, ?_⟩
  rintro m σ' H' ⟨ρ', Hs', iv, E', f'⟩
  obtain ⟨b, ρ2, q1, q2, q3⟩ := ht m ρ' iv
  refine ⟨⟨(ρ', b, ρ2), q1⟩, io, Hf, Hs', E', fun Hs2 H2 E2 f2 => ?_⟩
  cases b with
  | true =>
    refine iteT ⟨fun σ3 H3 => ∃ m' ρ3 Hs3, m' < m ∧ Iv m' ρ3 ∧ EnvOk X.K io ρ3 σ3 Hf Hs3 H3 ∧ ExF Hf Hs Hs3, fun σ3 H3 ⟨m', ρ3, Hs3, hm, iv3, E3, f3⟩ => ⟨m', hm, ρ3, Hs3, iv3, E3, f3⟩, ?_⟩
    refine ⟨⟨(m, ρ2), q2 rfl⟩, io, Hf, Hs2, hio, E2, fun ρ4 σ4 Hs4 H4 q E4 f4 => ?_, fun r ρ4 w4 σ4 Hs4 H4 q E4 f4 z => kk.rt r ρ4 w4 σ4 Hs4 H4 q E4 ((f'.trans f2).trans f4) z, fun ρ4 σ4 Hs4 H4 q E4 f4 => kk.nx ρ4 σ4 Hs4 H4 q E4 ((f'.trans f2).trans f4), fun ρ4 σ4 Hs4 H4 q E4 f4 => ?_⟩
    · obtain ⟨m', hm, iv4⟩ := q
      exact ⟨m', ρ4, Hs4, hm, iv4, E4, (f'.trans f2).trans f4⟩
    · obtain ⟨m', hm, iv4⟩ := q
      exact ⟨m', ρ4, Hs4, hm, iv4, E4, (f'.trans f2).trans f4⟩
  | false => exact iteF (kk.nx ρ2 σ' Hs2 H2 (q3 rfl) E2 (f'.trans f2))
theorem psd_while (Iv : Nat → Rho → Prop) (m0 : Nat) (hp : PassesOwn (model X.prog X.w) X.A X.env X.xe) (h0 : Iv m0 ρ)
    (ht : ∀ m ρ', Iv m ρ' → ∃ b ρ2, PTD X c ρ' b ρ2 ∧ (b = true → PSD X bi body ρ2 (kWhile { k with nx := fun ρ' => PSD X bi rest ρ' k } Iv m)) ∧ (b = false → PSD X bi rest ρ2 k)) : PSD X bi (.While c body [] pos :: rest) ρ k :=
  psd_cons (fun ρ' => PSD X bi rest ρ' k) (ps1_while Iv m0 hp h0 ht) fun _ h => h
end
end Dn
end

section
set_option Elab.async false
set_option linter.all false
set_option maxRecDepth 100000
set_option maxHeartbeats 2000000
/-! DComp: list comprehensions over data. -/
namespace Dn
open PySem PySem.Spec L2

/-! ### the comprehension's own slots forgotten -/
def wipeR (ρ : Rho) : List Nat → Rho
  | [] => ρ
  | v :: vs => (wipeR ρ vs).set v .non
theorem wipeR_len (ρ : Rho) : ∀ vs, (wipeR ρ vs).length = ρ.length
  | [] => rfl
  | v :: vs => by unfold wipeR; rw [List.length_set, wipeR_len ρ vs]
theorem wipeR_in {ρ : Rho} : ∀ {vs : List Nat} {j : Nat} {s : Sl}, (wipeR ρ vs)[j]? = some s → j ∈ vs → s = .non
  | [], j, s, _, h => by simp at h
  | v :: vs, j, s, e, h => by
    unfold wipeR at e
    by_cases hv : v = j
    · subst hv
      by_cases hl : v < (wipeR ρ vs).length
      · rw [List.getElem?_set_self hl] at e
        exact (Option.some.inj e).symm
      · rw [List.getElem?_eq_none (by rw [List.length_set]; omega)] at e
        cases e
    · rw [get_set_ne hv] at e
      rcases List.mem_cons.mp h with h | h
      · exact absurd h.symm hv
      · exact wipeR_in e h
theorem wipeR_out {ρ : Rho} : ∀ {vs : List Nat} {j : Nat}, j ∉ vs → (wipeR ρ vs)[j]? = ρ[j]?
  | [], _, _ => rfl
  | v :: vs, j, h => by
    unfold wipeR
    rw [get_set_ne (fun e => h (by rw [e]; simp))]
    exact wipeR_out fun z => h (List.mem_cons_of_mem _ z)
theorem wipe_out {σ : L2.St} : ∀ {vs : List Nat} {j : Nat}, j ∉ vs → (wipe σ vs)[j]? = σ[j]?
  | [], _, _ => rfl
  | v :: vs, j, h => by
    unfold wipe
    rw [get_set_ne (fun e => h (by rw [e]; simp))]
    exact wipe_out fun z => h (List.mem_cons_of_mem _ z)
theorem wipe_in {σ : L2.St} : ∀ {vs : List Nat} {j : Nat}, j ∈ vs → j < σ.length → (wipe σ vs)[j]? = some none
  | [], j, h, _ => by simp at h
  | v :: vs, j, h, hl => by
    unfold wipe
    by_cases hv : v = j
    · subst hv
      exact List.getElem?_set_self (by rw [wipe_length]; exact hl)
    · rw [get_set_ne hv]
      rcases List.mem_cons.mp h with h | h
      · exact absurd h.symm hv
      · exact wipe_in h hl
theorem wipe_eq {σ σ' : L2.St} {vs : List Nat} (hl : σ'.length = σ.length) (h : ∀ j, j ∉ vs → σ'[j]? = σ[j]?) : wipe σ' vs = wipe σ vs := by
  apply List.ext_getElem?
  intro j
  by_cases hj : j ∈ vs
  · by_cases hs : j < σ.length
    · rw [wipe_in hj hs, wipe_in hj (by rw [hl]; exact hs)]
    · rw [List.getElem?_eq_none (by rw [wipe_length]; omega), List.getElem?_eq_none (by rw [wipe_length]; omega)]
  · rw [wipe_out hj, wipe_out hj]
    exact h j hj
section
variable {K : PySem.W.Frag} {io : Option Addr} {ρ : Rho} {σ σ' : L2.St} {Hf Hs H : Hp} {vs : List Nat}
/-- slots that agree but where nothing is said -/
theorem EnvOk.onto (E : EnvOk K io ρ σ Hf Hs H) (hl : σ'.length = σ.length) (h : ∀ j, j ∉ vs → σ'[j]? = σ[j]?) (h0 : ∀ v ∈ vs, v ≠ 0) : EnvOk K io (wipeR ρ vs) σ' Hf Hs H := by
  have nin : ∀ {j : Nat} {s : Sl}, (wipeR ρ vs)[j]? = some s → s ≠ .non → j ∉ vs ∧ ρ[j]? = some s := fun {j s} e n => by
    by_cases hj : j ∈ vs
    · exact absurd (wipeR_in e hj) n
    · rw [wipeR_out hj] at e
      exact ⟨hj, e⟩
  refine ⟨E.fr, E.st, by rw [wipeR_len, hl]; exact E.len, fun j d e => ?_, fun j d e => ?_, fun i j d e a q1 q2 q3 q4 => ?_, fun a e => ?_⟩
  · obtain ⟨n, e⟩ := nin e (by intro z; cases z)
    obtain ⟨v, h1, h2⟩ := E.val j d e
    exact ⟨v, by rw [h j n]; exact h1, h2⟩
  · obtain ⟨n, e⟩ := nin e (by intro z; cases z)
    obtain ⟨a, h1, h2⟩ := E.own j d e
    exact ⟨a, by rw [h j n]; exact h1, h2⟩
  · obtain ⟨n1, e1⟩ := nin q1 (by intro z; cases z)
    obtain ⟨n2, e2⟩ := nin q2 (by intro z; cases z)
    rw [h i n1] at q3
    rw [h j n2] at q4
    exact E.sep i j d e a e1 e2 q3 q4
  · rw [h 0 fun z => h0 0 z rfl]
    exact E.io a e
/-- what nobody speaks of may be changed -/
theorem EnvOk.other (E : EnvOk K io ρ σ Hf Hs H) {p : Addr} {o : HO} (h1 : Hs p = none) (h2 : Hf p = none) (h3 : NoOwn ρ σ p) : EnvOk K io ρ σ Hf Hs (upd H p o) :=
  ⟨fun a u z => by rw [upd_ne (ne_of_none z h2)]; exact E.fr a u z, fun a u z => by rw [upd_ne (ne_of_none z h1)]; exact E.st a u z, E.len, E.val, fun i d z => by
    obtain ⟨a, g1, g2, g3, g4⟩ := E.own i d z
    have na : a ≠ p := fun e => h3 i d z (e ▸ g1)
    exact ⟨a, g1, g2.mono (Ex.refl _) fun u y => by rw [upd_ne na]; exact y, g3, g4⟩, E.sep, E.io⟩
end

abbrev bk (X : Cx) (scope : Scope) (s : Shared) (H : Hp) (C : Addr) (cl : List (Str × Addr)) (fp : List Addr) : Cx := X.blk s H scope (compEnvC scope cl C X.env) fp
/-- in whatever block of the comprehension -/
def PDb (X : Cx) (scope : Scope) (e : Expr) (ρ : Rho) (r : Res) (ρ' : Rho) : Prop := ∀ (s : Shared) (H : Hp) (C : Addr) (cl : List (Str × Addr)) (fp : List Addr), PD (bk X scope s H C cl fp) e ρ r ρ'
def PTsb (X : Cx) (scope : Scope) (ifs : List Expr) (ρ : Rho) (b : Bool) (ρ' : Rho) : Prop := ∀ (s : Shared) (H : Hp) (C : Addr) (cl : List (Str × Addr)) (fp : List Addr), PTs (bk X scope s H C cl fp) ifs (rdT X.K ρ b ρ')
def PGDb (X : Cx) (scope : Scope) (tg : Expr) (ts : List Nat) (f : D → Rho → Rho → Prop) : Prop := ∀ (s : Shared) (H : Hp) (C : Addr) (cl : List (Str × Addr)) (fp : List Addr), PGD (bk X scope s H C cl fp) true tg ts f
section
variable {X : Cx} {tg iter elt : Expr} {ifs : List Expr} {scope : Scope} {ts vs : List Nat} {f : D → Rho → Rho → Prop} {ρ ρ1 : Rho} {xs : List D} {pos : Pos}
theorem pts_imp {t t' : TT} (h : PTs X ifs t) (i : ∀ σ H Q, t' σ H Q → t σ H Q) : PTs X ifs t' := ⟨fun pins s σ H Q I q => h.run pins s σ H Q I (i σ H Q q)⟩
theorem ptsb_nil : PTsb X scope [] ρ true ρ := fun s H C cl fp => pts_imp pts_nil fun σ H Q ⟨io, Hf, Hs, E, k⟩ => k Hs H E ExF.refl
theorem ptsb_one {c : Expr} {b : Bool} (h : ∀ (s : Shared) (H : Hp) (C : Addr) (cl : List (Str × Addr)) (fp : List Addr), PTD (bk X scope s H C cl fp) c ρ b ρ1) : PTsb X scope [c] ρ b ρ1 := fun s H C cl fp => pts_one (h s H C cl fp)
theorem pts_any {α : Type} {tf : α → TT} (h : ∀ a, PTs X ifs (tf a)) : PTs X ifs (fun σ H Q => ∃ a, tf a σ H Q) := ⟨fun pins s σ H Q I ⟨a, q⟩ => (h a).run pins s σ H Q I q⟩
/-- what is asked of one turn: the slots R, the list zs so far -/
def TurnOk (X : Cx) (scope : Scope) (elt : Expr) (ifs : List Expr) (f : D → Rho → Rho → Prop) (vs : List Nat) (R : Nat → Rho) (zs : Nat → List D) (i : Nat) (d : D) : Prop :=
  ∃ ρ2 b ρ2', f d (R i) ρ2 ∧ PTsb X scope ifs ρ2 b ρ2' ∧ (b = true → ∃ y ρ3, PDb X scope elt ρ2' (.val y) ρ3 ∧ wipeR ρ3 vs = R (i + 1) ∧ zs (i + 1) = zs i ++ [y]) ∧ (b = false → wipeR ρ2' vs = R (i + 1) ∧ zs (i + 1) = zs i)
abbrev ttC (X : Cx) (scope : Scope) (ifs : List Expr) : TT := fun σ H Q => ∃ a : { q : Rho × Bool × Rho // PTsb X scope ifs q.1 q.2.1 q.2.2 }, rdT X.K a.1.1 a.1.2.1 a.1.2.2 σ H Q
abbrev teC (X : Cx) (scope : Scope) (elt : Expr) : TE := fun σ H Q => ∃ a : { q : Rho × D × Rho // PDb X scope elt q.1 (.val q.2.1) q.2.2 }, rdE X.K a.1.1 (.val a.1.2.1) a.1.2.2 σ H Q
theorem lc_read (R : Nat → Rho) (zs : Nat → List D) (h0 : R 0 = wipeR ρ1 vs) (hR : ∀ i, wipeR (R i) vs = R i) (hz0 : zs 0 = []) (hzl : ∀ i, (zs i).length ≤ i) (hts : ∀ t ∈ ts, t ∈ vs) (hv0 : ∀ v ∈ vs, v ≠ 0) (hz : xs.length ≤ 1000000)
    (ht : ∀ i d, xs[i]? = some d → TurnOk X scope elt ifs f vs R zs i d) {σ : L2.St} {H : Hp} {Q : VK}
    (h : rdE X.K ρ (.own (.lst (zs xs.length))) (R xs.length) σ H Q) : tLc (rdI X.K ρ xs ρ1) (rdG X.K true ts f) (ttC X scope ifs) (teC X scope elt) vs σ H Q := by
  obtain ⟨io, Hf, Hs, E, k⟩ := h
  refine ⟨io, Hf, Hs, E, fun J Hs1 H1 E1 f1 w => fun Dd hD => ?_⟩
  have wl : (wipe σ vs).length = σ.length := wipe_length σ vs
  have E2 : EnvOk X.K io (R 0) (wipe σ vs) Hf Hs1 H1 := by rw [h0]; exact E1.onto wl (fun j hj => wipe_out hj) hv0
  refine lc_it (g := rdG X.K true ts f) (tt := ttC X scope ifs) (te := teC X scope elt) (Qd := Q (.ref Dd)) w
    (fun i H' => ∃ Hs' acc, EnvOk X.K io (R i) (wipe σ vs) Hf Hs' H' ∧ ExF Hf Hs1 Hs' ∧ H' Dd = some (.lst acc) ∧ Dens X.K Hs' acc (zs i) ∧ Hs' Dd = none ∧ NoOwn (R i) (wipe σ vs) Dd ∧ Hf Dd = none)
    ⟨Hs1, [], E2.grow (Ex.new hD) (Ex.refl _) (E1.st.trans (Ex.new hD)) (fun _ _ _ z => z), ExF.refl, upd_same, by rw [hz0]; exact .nil, E1.st.none hD, E2.noOwn hD, E1.fr.none hD⟩
    (fun i H' _ ⟨Hs', acc, E', f', _⟩ => f'.ex.trans E'.st) ?_ ?_
  · rintro i v H' H2 hi ⟨Hs', acc, E', f', hacc, dacc, nD, oD, fD⟩ ⟨d, hd, y⟩
    obtain ⟨Hs2, g, dd⟩ := y Hs' f'.ex E'.st
    obtain ⟨E3, f3⟩ := E'.gr g
    obtain ⟨E4, x1, x2⟩ := E3.more
    have mD : mxf (R i) (wipe σ vs) H2 Dd = some (.lst acc) := mxf_of (g.ex _ _ hacc) oD
    have nD2 : Hs2 Dd = none := g.nw _ _ hacc nD
    obtain ⟨ρ2, b, ρ2', t1, t2, t3, t4⟩ := ht i d hd
    refine ⟨io, _, Hs2, R i, ρ2, d, (fun z => Bool.noConfusion z), E4, dd, t1, fun σ3 H3 E5 o5 => ?_⟩
    have ow : σ3.length = (wipe σ vs).length ∧ ∀ j, j ∉ vs → σ3[j]? = (wipe σ vs)[j]? := ⟨o5.1, fun j hj => o5.2 j fun z => hj (hts j z)⟩
    refine ⟨(wipe_eq ow.1 ow.2).trans (wipe_eq wl fun j hj => wipe_out hj), ⟨(ρ2, b, ρ2'), t2⟩, io, _, Hs2, E5, fun Hs4 H4 E6 f6 => ?_⟩
    have nD4 : Hs4 Dd = none := f6.nw _ _ mD nD2
    -- the turn's end
    have fin : ∀ {ρ3 : Rho} {Hs5 H5 : Hp}, EnvOk X.K io ρ3 σ3 (mxf (R i) (wipe σ vs) H2) Hs5 H5 → ExF (mxf (R i) (wipe σ vs) H2) Hs4 Hs5 → wipeR ρ3 vs = R (i + 1) →
        EnvOk X.K io (R (i + 1)) (wipe σ vs) Hf Hs5 H5 ∧ ExF Hf Hs1 Hs5 ∧ H5 Dd = some (.lst acc) ∧ Hs5 Dd = none ∧ NoOwn (R (i + 1)) (wipe σ vs) Dd ∧ Ex Hs' Hs5 := fun {ρ3 Hs5 H5} E7 f7 e => by
      have E8 := E7.onto (σ' := wipe σ vs) (vs := vs) ow.1.symm (fun j hj => (ow.2 j hj).symm) hv0
      rw [e] at E8
      refine ⟨E8.less x1, ((f'.trans f3).trans (f6.less x1)).trans (f7.less x1), E7.fr _ _ mD, f7.nw _ _ mD nD4, fun n e' q1 q2 => ?_, (f3.trans ((f6.trans f7).less x1)).ex⟩
      obtain ⟨a, z1, z2, z3, z4⟩ := E8.own n e' q1
      rw [q2] at z1
      cases z1
      rw [mD] at z4
      cases z4
    cases b with
    | false =>
      obtain ⟨q1, q2⟩ := t4 rfl
      obtain ⟨z1, z2, z3, z4, z5, z6⟩ := fin E6 ExF.refl q1
      refine iteF ⟨Hs4, acc, z1, z2, z3, ?_, z4, z5, fD⟩
      rw [q2]
      exact dacc.mono z6
    | true =>
      obtain ⟨yv, ρ3, q1, q2, q3⟩ := t3 rfl
      refine iteT ⟨⟨(ρ2', yv, ρ3), q1⟩, io, _, Hs4, E6, fun vy Hs5 H5 E7 f7 dy => ?_⟩
      obtain ⟨z1, z2, z3, z4, z5, z6⟩ := fin E7 f7 q2
      have la : acc.length < sizeLine := by
        rw [dacc.length, sizeLine_eq]
        have := hzl i
        omega
      refine ⟨acc, z3, la, Hs5, acc ++ [vy], z1.other z4 fD z5, z2, upd_same, ?_, z4, z5, fD⟩
      rw [q3]
      exact (dacc.mono z6).append (.cons dy .nil)
  · rintro H' ⟨Hs', acc, E', f', hacc, dacc, nD, oD, fD⟩
    have E3 := E'.onto (σ' := σ) (vs := vs) wl.symm (fun j hj => (wipe_out hj).symm) hv0
    rw [hR] at E3
    refine k _ Hs' H' E3 (f1.trans f') ⟨Dd, rfl, ⟨acc, hacc, dacc⟩, nD, fD, fun n e q1 q2 => ?_⟩
    have nv : n ∉ vs := fun z => by
      have e' := q1
      rw [← hR xs.length] at e'
      have := wipeR_in e' z
      cases this
    exact oD n e q1 (by rw [wipe_out nv]; exact q2)
/-- [elt for tg in iter if ..] -/
theorem pd_lc (own : List (Str × Nat)) (R : Nat → Rho) (zs : Nat → List D) (hN : X.N.Nodup) (hi : PID X tg iter ρ xs ρ1) (ok : BlkOk X.N X.env.scope scope own) (hg : PGDb X scope tg ts f) (h0 : R 0 = wipeR ρ1 (own.map (·.2))) (hR : ∀ i, wipeR (R i) (own.map (·.2)) = R i)
    (hz0 : zs 0 = []) (hzl : ∀ i, (zs i).length ≤ i) (hz : xs.length ≤ 1000000) (ht : ∀ i d, xs[i]? = some d → TurnOk X scope elt ifs f (own.map (·.2)) R zs i d)
    (hts : ∀ t ∈ ts, t ∈ own.map (·.2) := by decide) (hv0 : ∀ v ∈ own.map (·.2), v ≠ 0 := by decide) (hc : X.calm = true := by rfl) (hs : ∀ x, foldedSetIterable iter X.env x = pure x := by intro _; rfl) :
    PD X (.ListComp elt [⟨tg, iter, ifs, 0⟩] scope pos) ρ (.own (.lst (zs xs.length))) (R xs.length) :=
  pe_imp (pe_lc (g := rdG X.K true ts f) (tt := ttC X scope ifs) (te := teC X scope elt) hc hN hi ok (fun s H C cl fp => hg s H C cl fp) (fun s H C cl fp => pts_any fun a => a.2 s H C cl fp) (fun s H C cl fp => pe_any fun a => a.2 s H C cl fp) hs) fun σ H Q h => lc_read R zs h0 hR hz0 hzl hts hv0 hz ht h
/-- name = [..] on one line -/
theorem ps1_lc {bi : Bool} {k : Kn} {y : Str} {py spos : Pos} (i : Nat) (own : List (Str × Nat)) (R : Nat → Rho) (zs : Nat → List D) (hN : X.N.Nodup) (hi : PID X tg iter ρ xs ρ1) (ok : BlkOk X.N X.env.scope scope own) (hg : PGDb X scope tg ts f) (h0 : R 0 = wipeR ρ1 (own.map (·.2))) (hR : ∀ i, wipeR (R i) (own.map (·.2)) = R i)
    (hz0 : zs 0 = []) (hzl : ∀ i, (zs i).length ≤ i) (hz : xs.length ≤ 1000000) (ht : ∀ i d, xs[i]? = some d → TurnOk X scope elt ifs f (own.map (·.2)) R zs i d)
    (hsw : swapsWith (.ListComp elt [⟨tg, iter, ifs, 0⟩] scope pos) (some (.Name y py)) spos.line X.env = pure true) (hk : k.nx ((R xs.length).set i (.own (.lst (zs xs.length)))) := by rfl) (hy : X.N[i]? = some y := by rfl) (hyl : X.env.scope.names.lookup y = some .local := by rfl) (hio : i ≠ 0 ∨ bi = false := by first | exact Or.inl (by decide) | exact Or.inr rfl)
    (hts : ∀ t ∈ ts, t ∈ own.map (·.2) := by decide) (hv0 : ∀ v ∈ own.map (·.2), v ≠ 0 := by decide) (hc : X.calm = true := by rfl) (hs : ∀ x, foldedSetIterable iter X.env x = pure x := by intro _; rfl) :
    PS1 X bi (.Assign [.Name y py] (.ListComp elt [⟨tg, iter, ifs, 0⟩] scope pos) spos) ρ k :=
  ps_imp (ps_setLc (g := rdG X.K true ts f) (tt := ttC X scope ifs) (te := teC X scope elt) hc hN hy hyl hsw hi ok (fun s H C cl fp => hg s H C cl fp) (fun s H C cl fp => pts_any fun a => a.2 s H C cl fp) (fun s H C cl fp => pe_any fun a => a.2 s H C cl fp) hs) fun Z σ H ⟨io, Hf, Hs, hb, E, kk⟩ =>
    lc_read (ρ := ρ) R zs h0 hR hz0 hzl hts hv0 hz ht ⟨io, Hf, Hs, E, fun v Hs' H' E' f' r => kk.nx _ _ Hs' H' hk (E'.setr r (hio.imp_right hb)) f'⟩

/-! ### the usual cases -/
theorem wipeR_twice (ρ : Rho) (vs : List Nat) : wipeR (wipeR ρ vs) vs = wipeR ρ vs := by
  apply List.ext_getElem?
  intro j
  by_cases hj : j ∈ vs
  · by_cases hl : j < ρ.length
    · cases q : (wipeR ρ vs)[j]? with
      | none =>
        have z := List.getElem?_eq_none_iff.mp q
        rw [wipeR_len] at z
        omega
      | some s =>
        have := wipeR_in q hj
        subst this
        cases q2 : (wipeR (wipeR ρ vs) vs)[j]? with
        | none =>
          have z := List.getElem?_eq_none_iff.mp q2
          rw [wipeR_len, wipeR_len] at z
          omega
        | some s2 =>
          have := wipeR_in q2 hj
          subst this
          rfl
    · rw [List.getElem?_eq_none (by rw [wipeR_len, wipeR_len]; omega), List.getElem?_eq_none (by rw [wipeR_len]; omega)]
  · rw [wipeR_out hj]
theorem take_step {α : Type} {l : List α} {i : Nat} {y : α} (h : l[i]? = some y) : l.take (i + 1) = l.take i ++ [y] := by
  rw [List.take_add_one, h]
  rfl
end
end Dn
end

section
set_option Elab.async false
set_option linter.all false
set_option maxRecDepth 100000
set_option maxHeartbeats 2000000
/-! DBuilt: operators and built-in functions over data. -/
namespace Dn
open PySem PySem.Spec L2

section
variable {X : Cx}
/-! ### ints -/
theorem bd_I {f : Value → Value → Sem Value} {C : Int → Int → Prop} {g : Int → Int → Int} (h : OpR X f (rI C fun i j => .int (g i j))) {i j : Int} (hc : C i j) : BinD X f (.int i) (.int j) (.val (.int (g i j))) :=
  opr_imp h fun u v H Q ⟨Hs, e, d1, d2, k⟩ => by
    cases d1
    cases d2
    exact ⟨i, j, rfl, rfl, hc, k _ Hs H (Gr.refl e) (.int _)⟩
theorem bd_I0 {f : Value → Value → Sem Value} {g : Int → Int → Int} (h : OpR X f (rI0 fun i j => .int (g i j))) {i j : Int} : BinD X f (.int i) (.int j) (.val (.int (g i j))) :=
  opr_imp h fun u v H Q ⟨Hs, e, d1, d2, k⟩ => by
    cases d1
    cases d2
    exact ⟨i, j, rfl, rfl, k _ Hs H (Gr.refl e) (.int _)⟩
theorem bd_B0 {f : Value → Value → Sem Value} {g : Int → Int → Bool} (h : OpR X f (rI0 fun i j => .bl (g i j))) {i j : Int} : BinD X f (.int i) (.int j) (.val (.bl (g i j))) :=
  opr_imp h fun u v H Q ⟨Hs, e, d1, d2, k⟩ => by
    cases d1
    cases d2
    exact ⟨i, j, rfl, rfl, k _ Hs H (Gr.refl e) (.bl _)⟩
theorem bd_add {i j : Int} : BinD X (binaryOp .Add) (.int i) (.int j) (.val (.int (i + j))) := bd_I0 op_add
theorem bd_sub {i j : Int} : BinD X (binaryOp .Sub) (.int i) (.int j) (.val (.int (i - j))) := bd_I0 op_sub
/-- factors of together less than a million bits -/
theorem bd_mul {i j : Int} (h : CMulW i j) : BinD X (binaryOp .Mult) (.int i) (.int j) (.val (.int (i * j))) := bd_I op_mulW h
theorem bd_mulC {i j : Int} (h : CMul i j) : BinD X (binaryOp .Mult) (.int i) (.int j) (.val (.int (i * j))) := bd_I op_mul h
theorem bd_mod {i j : Int} (h : 0 < j) : BinD X (binaryOp .Mod) (.int i) (.int j) (.val (.int (i % j))) := bd_I op_mod h
theorem bd_div {i j : Int} (h : 0 < j ∧ j < 1073741824) : BinD X (binaryOp .FloorDiv) (.int i) (.int j) (.val (.int (i / j))) := bd_I op_fdiv h
/-- // by any divisor that is not 0, below 2 ^ 9000 -/
def CDivA (_ j : Int) : Prop := j ≠ 0 ∧ j.natAbs.log2 < 9000
theorem op_fdivA : OpR X (binaryOp .FloorDiv) (rI CDivA fun i j => .int (i.fdiv j)) := opI fun _ _ _ _ _ _ _ hc q => PyProof.Rows.floordiv_int hc.1 q (.inl (PyProof.noPylong_of_log2 hc.2))
theorem bd_divA {i j : Int} (h : CDivA i j) : BinD X (binaryOp .FloorDiv) (.int i) (.int j) (.val (.int (i.fdiv j))) := bd_I op_fdivA h
theorem bd_pow {i j : Int} (h : CPow i j) : BinD X (binaryOp .Pow) (.int i) (.int j) (.val (.int (i ^ j.toNat))) := bd_I op_pow h
theorem bd_lt {i j : Int} : BinD X (compareOp .Lt) (.int i) (.int j) (.val (.bl (decide (i < j)))) := bd_B0 op_lt
theorem bd_le {i j : Int} : BinD X (compareOp .LtE) (.int i) (.int j) (.val (.bl (decide (i ≤ j)))) := bd_B0 op_le
theorem bd_gt {i j : Int} : BinD X (compareOp .Gt) (.int i) (.int j) (.val (.bl (decide (j < i)))) := bd_B0 op_gt
theorem bd_ge {i j : Int} : BinD X (compareOp .GtE) (.int i) (.int j) (.val (.bl (decide (j ≤ i)))) := bd_B0 op_ge
/-! ### ==, != of scalars -/
theorem bd_eqI {i j : Int} : BinD X (compareOp .Eq) (.int i) (.int j) (.val (.bl (decide (i = j)))) :=
  opr_imp op_eq fun u v H Q ⟨Hs, e, d1, d2, k⟩ => by
    cases d1
    cases d2
    refine ⟨rfl, ?_⟩
    have z := k (.bl (decide (i = j))) Hs H (Gr.refl e) (.bl _)
    rw [show decide (V.int i = V.int j) = decide (i = j) by rw [dec_int]; rfl]
    exact z
theorem bd_neI {i j : Int} : BinD X (compareOp .NotEq) (.int i) (.int j) (.val (.bl (!decide (i = j)))) :=
  opr_imp op_ne fun u v H Q ⟨Hs, e, d1, d2, k⟩ => by
    cases d1
    cases d2
    refine ⟨rfl, ?_⟩
    have z := k (.bl (!decide (i = j))) Hs H (Gr.refl e) (.bl _)
    rw [show decide (V.int i = V.int j) = decide (i = j) by rw [dec_int]; rfl]
    exact z
theorem bd_eqS {i j : Str} : BinD X (compareOp .Eq) (.str i) (.str j) (.val (.bl (decide (i = j)))) :=
  opr_imp op_eq fun u v H Q ⟨Hs, e, d1, d2, k⟩ => by
    cases d1
    cases d2
    refine ⟨rfl, ?_⟩
    have z := k (.bl (decide (i = j))) Hs H (Gr.refl e) (.bl _)
    rw [show decide (V.str i = V.str j) = decide (i = j) by rw [Bool.eq_iff_iff]; simp]
    exact z
theorem bd_neS {i j : Str} : BinD X (compareOp .NotEq) (.str i) (.str j) (.val (.bl (!decide (i = j)))) :=
  opr_imp op_ne fun u v H Q ⟨Hs, e, d1, d2, k⟩ => by
    cases d1
    cases d2
    refine ⟨rfl, ?_⟩
    have z := k (.bl (!decide (i = j))) Hs H (Gr.refl e) (.bl _)
    rw [show decide (V.str i = V.str j) = decide (i = j) by rw [Bool.eq_iff_iff]; simp]
    exact z
theorem bd_eqB {i j : Bool} : BinD X (compareOp .Eq) (.bl i) (.bl j) (.val (.bl (i == j))) :=
  opr_imp op_eq fun u v H Q ⟨Hs, e, d1, d2, k⟩ => by
    cases d1
    cases d2
    refine ⟨rfl, ?_⟩
    rw [dec_bl]
    exact k _ Hs H (Gr.refl e) (.bl _)
theorem bd_neB {i j : Bool} : BinD X (compareOp .NotEq) (.bl i) (.bl j) (.val (.bl (!(i == j)))) :=
  opr_imp op_ne fun u v H Q ⟨Hs, e, d1, d2, k⟩ => by
    cases d1
    cases d2
    refine ⟨rfl, ?_⟩
    rw [dec_bl]
    exact k _ Hs H (Gr.refl e) (.bl _)
/-! ### texts, lists -/
theorem bd_cat {i j : Str} (h : i.length + j.length ≤ 1000000) : BinD X (binaryOp .Add) (.str i) (.str j) (.val (.str (i ++ j))) :=
  opr_imp op_add_str fun u v H Q ⟨Hs, e, d1, d2, k⟩ => by
    cases d1
    cases d2
    exact ⟨i, j, rfl, rfl, by rw [sizeLine_eq]; omega, k _ Hs H (Gr.refl e) (.str _)⟩
theorem bd_catL {xs ys : List D} (h : xs.length + ys.length ≤ 1000000) : BinD X (binaryOp .Add) (.lst xs) (.lst ys) (.own (.lst (xs ++ ys))) :=
  opr_imp op_cat fun u v H Q ⟨Hs, e, d1, d2, k⟩ => by
    cases d1 with
    | lst a1 a2 =>
      cases d2 with
      | lst b1 b2 =>
        refine ⟨_, _, _, _, rfl, rfl, e _ _ a1, e _ _ b1, by rw [a2.length, b2.length, sizeLine_eq]; omega, fun p hp => ?_⟩
        exact k _ Hs _ (Gr.newo e hp) ⟨p, rfl, hp, e.none hp, _, upd_same, a2.append b2⟩
theorem bd_repL {xs : List D} {n : Int} (h0 : 0 ≤ n) (h : xs.length * n.toNat ≤ 1000000) (hn : n ≤ 1000000) : BinD X (binaryOp .Mult) (.lst xs) (.int n) (.own (.lst (List.replicate n.toNat xs).flatten)) :=
  opr_imp op_rep fun u v H Q ⟨Hs, e, d1, d2, k⟩ => by
    cases d1 with
    | lst a1 a2 =>
      cases d2
      refine ⟨_, n, _, rfl, rfl, e _ _ a1, by omega, by omega, by rw [a2.length, sizeLine_eq]; omega, fun p hp => ?_⟩
      refine k _ Hs _ (Gr.newo e hp) ⟨p, rfl, hp, e.none hp, _, upd_same, ?_⟩
      generalize n.toNat = m
      induction m with
      | zero => exact .nil
      | succ m ih =>
        rw [List.replicate_succ, List.replicate_succ, List.flatten_cons, List.flatten_cons]
        exact a2.append ih
theorem un_negD {i : Int} : UnD X (unaryOp .USub) (.int i) (.val (.int (-i))) := unr_imp un_neg fun u H Q ⟨Hs, e, d1, k⟩ => by
  cases d1
  exact ⟨i, rfl, k _ Hs H (Gr.refl e) (.int _)⟩

/-! ### calls of built-in functions -/
variable {ρ ρ1 : Rho} {p pos : Pos} {e : Expr} {es : List Expr} {r : Res} {as : List D} {x : Str} {id T : String}
theorem pd_callB (hc : CallD X (.builtin id) as r) (hm : X.mg x = none) (ha : PAD X (e :: es) ρ as ρ1) (hv : bootBuiltins x = some (.builtin id) := by decide +kernel) (hg : Gl X x := by rfl) (hn : x ≠ "__name__" := by decide) (hdb : (x == ("__debug__" : Str)) = false := by decide)
    (he : starEach (e :: es) X.env = (false, eval e X.env) :: starEach es X.env := by rfl) (hpl : (backTo pos (starEach es X.env)).any (·.1) = false := by rfl) : PD X (.Call (.Name x p) (e :: es) [] pos) ρ r ρ1 :=
  pe_imp (pe_callB hc hg hm hv ha hn hdb he hpl) fun σ H Q ⟨io, Hf, Hs, E, kk⟩ => ⟨io, Hf, Hs, E, fun vs Hs1 H1 E1 f1 q1 => ⟨Hs1, E1.st, q1, fun w Hs2 H2 g q => by
    obtain ⟨E2, f2⟩ := E1.gr g
    exact kk w Hs2 H2 E2 (f1.trans f2) (E1.ret q)⟩⟩
theorem pd_callTy (hc : CallD X (.type T) as r) (hm : X.mg x = none) (ha : PAD X (e :: es) ρ as ρ1) (hv : bootBuiltins x = some (.type T) := by decide +kernel) (hg : Gl X x := by rfl) (hn : x ≠ "__name__" := by decide) (hdb : (x == ("__debug__" : Str)) = false := by decide)
    (he : starEach (e :: es) X.env = (false, eval e X.env) :: starEach es X.env := by rfl) (hpl : (backTo pos (starEach es X.env)).any (·.1) = false := by rfl) : PD X (.Call (.Name x p) (e :: es) [] pos) ρ r ρ1 :=
  pe_imp (pe_callTy hc hg hm hv ha hn hdb he hpl) fun σ H Q ⟨io, Hf, Hs, E, kk⟩ => ⟨io, Hf, Hs, E, fun vs Hs1 H1 E1 f1 q1 => ⟨Hs1, E1.st, q1, fun w Hs2 H2 g q => by
    obtain ⟨E2, f2⟩ := E1.gr g
    exact kk w Hs2 H2 E2 (f1.trans f2) (E1.ret q)⟩⟩
/-- a module's name for a built-in function -/
theorem pd_callG (hc : CallD X (.builtin id) as r) (hm : X.mg x = some (.builtin id)) (ha : PAD X (e :: es) ρ as ρ1) (hg : Gl X x := by rfl) (hdb : (x == ("__debug__" : Str)) = false := by decide)
    (he : starEach (e :: es) X.env = (false, eval e X.env) :: starEach es X.env := by rfl) (hpl : (backTo pos (starEach es X.env)).any (·.1) = false := by rfl) : PD X (.Call (.Name x p) (e :: es) [] pos) ρ r ρ1 :=
  pe_imp (pe_callBfun hc hg hm ha hdb he hpl) fun σ H Q ⟨io, Hf, Hs, E, kk⟩ => ⟨io, Hf, Hs, E, fun vs Hs1 H1 E1 f1 q1 => ⟨Hs1, E1.st, q1, fun w Hs2 H2 g q => by
    obtain ⟨E2, f2⟩ := E1.gr g
    exact kk w Hs2 H2 E2 (f1.trans f2) (E1.ret q)⟩⟩
theorem one {K : PySem.W.Frag} {H : Hp} {vs : List V} {d : D} (h : Dens K H vs [d]) : ∃ v, vs = [v] ∧ Den K H v d := by
  cases h with | cons a b => cases b; exact ⟨_, rfl, a⟩
theorem two {K : PySem.W.Frag} {H : Hp} {vs : List V} {d d' : D} (h : Dens K H vs [d, d']) : ∃ v v', vs = [v, v'] ∧ Den K H v d ∧ Den K H v' d' := by
  cases h with | cons a b => obtain ⟨v', rfl, c⟩ := one b; exact ⟨_, v', rfl, a, c⟩
theorem cd_abs {i : Int} : CallD X (.builtin "abs") [.int i] (.val (.int (if i < 0 then -i else i))) := callr_imp call_abs fun vs H Q ⟨Hs, e, d, k⟩ => by
  obtain ⟨v, rfl, d1⟩ := one d
  cases d1
  exact ⟨i, rfl, k _ Hs H (Gr.refl e) (.int _)⟩
theorem cd_max {i j : Int} (hc : X.calm = true := by rfl) : CallD X (.builtin "max") [.int i, .int j] (.val (.int (if j > i then j else i))) := callr_imp (call_max2 hc) fun vs H Q ⟨Hs, e, d, k⟩ => by
  obtain ⟨v, v', rfl, d, d'⟩ := two d
  cases d
  cases d'
  exact ⟨i, j, rfl, k _ Hs H (Gr.refl e) (.int _)⟩
theorem cd_min {i j : Int} (hc : X.calm = true := by rfl) : CallD X (.builtin "min") [.int i, .int j] (.val (.int (if j < i then j else i))) := callr_imp (call_min2 hc) fun vs H Q ⟨Hs, e, d, k⟩ => by
  obtain ⟨v, v', rfl, d, d'⟩ := two d
  cases d
  cases d'
  exact ⟨i, j, rfl, k _ Hs H (Gr.refl e) (.int _)⟩
theorem cd_int {i : Int} : CallD X (.type "int") [.int i] (.val (.int i)) := callr_imp call_int1 fun vs H Q ⟨Hs, e, d, k⟩ => by
  obtain ⟨v, rfl, d1⟩ := one d
  cases d1
  exact .inl ⟨i, rfl, k _ Hs H (Gr.refl e) (.int _)⟩
theorem cd_intB {b : Bool} : CallD X (.type "int") [.bl b] (.val (.int (if b then 1 else 0))) := callr_imp call_int1 fun vs H Q ⟨Hs, e, d, k⟩ => by
  obtain ⟨v, rfl, d1⟩ := one d
  cases d1
  exact .inr ⟨b, rfl, k _ Hs H (Gr.refl e) (.int _)⟩
theorem cd_strI {i : Int} (h : i.natAbs.log2 < 1920) : CallD X (.type "str") [.int i] (.val (.str (toString i))) := callr_imp call_str_int fun vs H Q ⟨Hs, e, d, k⟩ => by
  obtain ⟨v, rfl, d1⟩ := one d
  cases d1
  exact ⟨i, rfl, h, k _ Hs H (Gr.refl e) (.str _)⟩
theorem cd_reprI {i : Int} (h : i.natAbs.log2 < 1920) : CallD X (.builtin "repr") [.int i] (.val (.str (toString i))) := callr_imp SkE.call_repr_int fun vs H Q ⟨Hs, e, d, k⟩ => by
  obtain ⟨v, rfl, d1⟩ := one d
  cases d1
  exact ⟨i, rfl, h, k _ Hs H (Gr.refl e) (.str _)⟩
theorem cd_gcd {i j : Int} : CallD X (.builtin "math.gcd") [.int i, .int j] (.val (.int ((Nat.gcd i.natAbs j.natAbs : Nat) : Int))) := callr_imp cr_gcd fun vs H Q ⟨Hs, e, d, k⟩ => by
  obtain ⟨v, v', rfl, d, d'⟩ := two d
  cases d
  cases d'
  exact ⟨i, j, rfl, k _ Hs H (Gr.refl e) (.int _)⟩
theorem cd_divmod {i j : Int} (h : 0 < j ∧ j < 1073741824) : CallD X (.builtin "divmod") [.int i, .int j] (.val (.tup [.int (i / j), .int (i % j)])) := callr_imp call_divmod fun vs H Q ⟨Hs, e, d, k⟩ => by
  obtain ⟨v, v', rfl, d, d'⟩ := two d
  cases d
  cases d'
  exact ⟨i, j, rfl, h, fun p hp => k _ _ _ (Gr.new e hp) (.tup upd_same (.cons (.int _) (.cons (.int _) .nil)))⟩
/-- what len tells -/
def lenD : D → Option Nat
  | .lst xs => some xs.length
  | .lstK xs => some xs.length
  | .tup xs => some xs.length
  | .tupK xs => some xs.length
  | .str x => if x.length ≤ 1000000 then some x.length else none
  | _ => none
theorem cd_len {d : D} {n : Nat} (h : lenD d = some n) : CallD X (.builtin "len") [d] (.val (.int (n : Int))) := callr_imp call_len fun vs H Q ⟨Hs, e, dn, k⟩ => by
  obtain ⟨v, rfl, d1⟩ := one dn
  refine ⟨v, n, rfl, ?_, k _ Hs H (Gr.refl e) (.int _)⟩
  cases d1 with
  | lst a b => cases h; exact .inl ⟨_, SqL.of (e _ _ a), b.length.symm⟩
  | lstK a b => cases h; exact .inl ⟨_, ex_l e a, b.length.symm⟩
  | tup a b => cases h; exact .inr ⟨_, SqT.of (e _ _ a), b.length.symm⟩
  | tupK a b => cases h; exact .inr ⟨_, ex_t e a, b.length.symm⟩
  | str y =>
    have h : (if y.length ≤ 1000000 then some y.length else none) = some n := h
    by_cases q : y.length ≤ 1000000
    · rw [if_pos q] at h
      cases h
      exact ⟨by rw [sizeLine_eq]; omega, rfl⟩
    · rw [if_neg q] at h
      cases h
  | _ => cases h
/-- a list of what a list or a tuple holds; a tuple of it -/
def seqD : D → Option (List D)
  | .lst xs => some xs
  | .lstK xs => some xs
  | .tup xs => some xs
  | .tupK xs => some xs
  | _ => none
theorem cd_list {d : D} {xs : List D} (h : seqD d = some xs) : CallD X (.type "list") [d] (.own (.lst xs)) := callr_imp call_list_of fun vs H Q ⟨Hs, e, dn, k⟩ => by
  obtain ⟨v, rfl, d1⟩ := one dn
  cases d1 with
  | lst a b => cases h; exact ⟨_, _, rfl, .inl (SqL.of (e _ _ a)), fun l hl => k _ Hs _ (Gr.newo e hl) ⟨l, rfl, hl, e.none hl, _, upd_same, b⟩⟩
  | lstK a b => cases h; exact ⟨_, _, rfl, .inl (ex_l e a), fun l hl => k _ Hs _ (Gr.newo e hl) ⟨l, rfl, hl, e.none hl, _, upd_same, b⟩⟩
  | tup a b => cases h; exact ⟨_, _, rfl, .inr (SqT.of (e _ _ a)), fun l hl => k _ Hs _ (Gr.newo e hl) ⟨l, rfl, hl, e.none hl, _, upd_same, b⟩⟩
  | tupK a b => cases h; exact ⟨_, _, rfl, .inr (ex_t e a), fun l hl => k _ Hs _ (Gr.newo e hl) ⟨l, rfl, hl, e.none hl, _, upd_same, b⟩⟩
  | _ => cases h
theorem cd_tuple {xs : List D} : CallD X (.type "tuple") [.lst xs] (.val (.tup xs)) := callr_imp call_tuple_of fun vs H Q ⟨Hs, e, dn, k⟩ => by
  obtain ⟨v, rfl, d1⟩ := one dn
  cases d1 with
  | lst a b => exact ⟨_, _, rfl, .inl ⟨SqL.of (e _ _ a), fun l hl => k _ _ _ (Gr.new e hl) (.tup upd_same (b.mono (Ex.new (e.none hl))))⟩⟩
end
end Dn
end

section
set_option Elab.async false
set_option linter.all false
set_option maxRecDepth 100000
set_option maxHeartbeats 2000000
/-! DOwn: operators, comparisons, str and repr of instances of own classes; isinstance. -/
namespace Dn
open PySem PySem.Spec L2
section
variable {X : Cx} {k j : Nat} {f C : Addr} {fd : FuncData} {ps : List Str} {S : List D → Res → Prop} {r : Res} {fs gs : List (Str × D)} {d : D}
/-- the callee runs in a surrounding of the same frames -/
theorem runAt {A' : Around} {pins : List (Addr × Obj)} {σ : L2.St} {H Hs : Hp} {s : Shared} {Q : VK} {us : List Value} {vs : List V} {ds : List D} {E : Value → Shared → Prop} (F : FnOk X.prog X.w X.K X.mg X.base CX0 k f fd ps (spD X.K S)) (room : Room k A') (hb : Binds X.K fd ps []) (I : Inv X pins σ H s)
    (e0 : Env0 X.prog X.w X.K X.mg X.base A' X.stack s H) (rel : Vals vs us) (e : Ex Hs H) (hd : Dens X.K Hs vs ds) (hS : S ds r) (kq : ∀ w Hs' H', Gr H H' Hs Hs' → RetOk X.K H Hs' H' w r → Q w H') : wpAny (model X.prog X.w) A' (call (.ref f) us) (EP X pins σ Q) E s := by
  have pr : spD X.K S vs H Q E0 := ⟨ds, r, Hs, hS, e, hd, kq⟩
  have many : us.length = ps.length := rel.length.symm.trans (F.len _ _ _ _ pr)
  have bi := hb s us I.kIn (by rw [List.append_nil]; exact many)
  rw [List.append_nil] at bi
  refine wpAny_call (codeAny_mono (F.run A' X.stack s H ⟨us, []⟩ us vs Q E0 room e0 bi rel pr) fun res s' z => ?_)
  cases res with
  | error er => exact False.elim z
  | ok fl => cases fl <;> first | exact I.after z | exact False.elim z
theorem back_cmp {pins : List (Addr × Obj)} {σ : L2.St} {Q : VK} {u : Value} {s : Shared} (h : EP X pins σ Q u s) : PySem.W.CmpBack (EP X pins σ Q) u s := by
  have h' := h
  obtain ⟨v, H', I, rel, q⟩ := h
  cases v with
  | non => cases rel; exact h'
  | bl b => cases rel; exact h'
  | int i => obtain ⟨t, rfl⟩ := rel; exact h'
  | str i => obtain ⟨t, rfl⟩ := rel; exact h'
  | byt i => obtain ⟨t, rfl⟩ := rel; exact h'
  | flt i => obtain ⟨t, rfl⟩ := rel; exact h'
  | ref i => cases rel; exact h'
  | ty i => cases rel; exact h'
/-- what a class must have so that its instances stand at an operator -/
structure OpC (K : PySem.W.Frag) (C : Addr) (nm : String) (f : Addr) : Prop where
  self : PySem.W.selfFirst K C = true
  at_ : PySem.W.findIn K (.ref C) (PySem.dunder nm) = some (some (.ref f))
  fn : PySem.W.isFn K (.ref f) = true
theorem inst_of {pins : List (Addr × Obj)} {σ : L2.St} {H Hs : Hp} {s : Shared} {v : V} {u : Value} (I : Inv X pins σ H s) (e : Ex Hs H) (h : Den X.K Hs v (.obj C fs)) (rel : RelV v u) : ∃ a ox od, v = .ref a ∧ u = .ref a ∧ PySem.W.InstAt s.heap a ox C od := by
  cases h with
  | @obj a _ dx fv _ h1 h2 =>
    cases rel
    obtain ⟨mA, O, _⟩ := ins_get I.hok (e _ _ h1)
    obtain ⟨od, J, _⟩ := O.look
    exact ⟨a, _, _, rfl, rfl, J⟩
/-- x op y, both of the class -/
theorem bd_own {op : Operator} (o : OpC X.K C op.info.2 f) (F : FnOk X.prog X.w X.K X.mg X.base CX0 k f fd ps (spD X.K S)) (hb : Binds X.K fd ps []) (hr : Room j X.A) (hS : S [.obj C fs, .obj C gs] r) (hk : k ≤ j := by decide) : BinD X (binaryOp op) (.obj C fs) (.obj C gs) r := by
  intro pins s σ H x y v u Q I r1 r2 ⟨Hs, e, d1, d2, kq⟩
  obtain ⟨a, ox, od, rfl, rfl, J⟩ := inst_of I e d1 r1
  obtain ⟨b, oy, od', rfl, rfl, J'⟩ := inst_of I e d2 r2
  obtain ⟨m, Fr⟩ := I.fr
  exact PySem.W.binop_K Fr I.ok.mod.kin J J'.type o.self o.at_ o.fn (thn (runAt F (hr.mono hk) hb I I.env0 (.cons r1 (.cons r2 .nil)) e (.cons d1 (.cons d2 .nil)) hS kq) fun _ _ z => back_cmp z)
/-- x op n, n an int -/
structure OpI (K : PySem.W.Frag) (C : Addr) (nm : String) : Prop where
  refl : ∃ rc, PySem.W.findIn K (.ref C) (dunderR nm) = some rc ∧ (rc = none ∨ ∃ g : Addr, rc = some (.ref g))
  i1 : ∃ fo, PySem.W.findIn K (.type "int") (PySem.dunder nm) = some fo
  i2 : ∃ ro, PySem.W.findIn K (.type "int") (dunderR nm) = some ro
  sub : PySem.W.subIn K (.type "int") (.ref C) = some false
theorem bd_ownI {op : Operator} {i : Int} (o : OpC X.K C op.info.2 f) (oi : OpI X.K C op.info.2) (F : FnOk X.prog X.w X.K X.mg X.base CX0 k f fd ps (spD X.K S)) (hb : Binds X.K fd ps []) (hr : Room j X.A) (hS : S [.obj C fs, .int i] r) (hk : k ≤ j := by decide) : BinD X (binaryOp op) (.obj C fs) (.int i) r := by
  intro pins s σ H x y v u Q I r1 r2 ⟨Hs, e, d1, d2, kq⟩
  obtain ⟨a, ox, od, rfl, rfl, J⟩ := inst_of I e d1 r1
  obtain ⟨m, Fr⟩ := I.fr
  obtain ⟨rc, g1, g2⟩ := oi.refl
  obtain ⟨fo, g3⟩ := oi.i1
  obtain ⟨ro, g4⟩ := oi.i2
  have run := thn (runAt (E := X.xe) F (hr.mono hk) hb I I.env0 (.cons r1 (.cons r2 .nil)) e (.cons d1 (.cons d2 .nil)) hS kq) fun _ _ z => back_cmp z
  cases d2
  obtain ⟨t, rfl⟩ := r2
  exact PySem.W.ksp_binT (T := "int") Fr I.ok.mod.kin J rfl o.self o.at_ o.fn g1 g2 g3 g4 oi.sub run
/-- -x -/
theorem ud_own (at_ : PySem.W.findIn X.K (.ref C) "__neg__" = some (some (.ref f))) (fn : PySem.W.isFn X.K (.ref f) = true) (F : FnOk X.prog X.w X.K X.mg X.base CX0 k f fd ps (spD X.K S)) (hb : Binds X.K fd ps []) (hr : Room j X.A) (hS : S [.obj C fs] r) (hk : k ≤ j := by decide) : UnD X (unaryOp .USub) (.obj C fs) r := by
  intro pins s σ H x v Q I r1 ⟨Hs, e, d1, kq⟩
  obtain ⟨a, ox, od, rfl, rfl, J⟩ := inst_of I e d1 r1
  obtain ⟨m, Fr⟩ := I.fr
  exact PySem.W.ksp_neg Fr I.ok.mod.kin J at_ fn (runAt F (hr.mono hk) hb I I.env0 (.cons r1 .nil) e (.cons d1 .nil) hS kq)
/-- the type of a datum, where it is known -/
inductive TyD (K : PySem.W.Frag) : D → Value → Prop where
  | non : TyD K .non (.type "NoneType")
  | bl (b : Bool) : TyD K (.bl b) (.type "bool")
  | int (i : Int) : TyD K (.int i) (.type "int")
  | str (x : Str) : TyD K (.str x) (.type "str")
  | lst (xs : List D) : TyD K (.lst xs) (.type "list")
  | tup (xs : List D) : TyD K (.tup xs) (.type "tuple")
  | dct (xs : List (Key × D)) : TyD K (.dct xs) (.type "dict")
  | obj {C : Addr} (fs : List (Str × D)) (cl : Cls K C) (ha : PySem.W.findIn K (.ref C) "__class__" = some (some (.builtin "object.__class__")))
      (hn : PySem.W.specialIn K (.builtin "object.__class__") "__get__" = some (some (.builtin "getset_descriptor.__get__"))) (htk : PySem.W.takesIn K (.builtin "object.__class__") = some true)
      (hm : PySem.W.mroIn K C (.type "object") = some true) : TyD K (.obj C fs) (.ref C)
theorem TyD.of {K : PySem.W.Frag} {Hs H : Hp} {v : V} {d : D} {t : Value} (h : TyD K d t) (e : Ex Hs H) (q : Den K Hs v d) : TyOf K H v t := by
  cases h with
  | non => cases q; exact .non
  | bl b => cases q; exact .bl _
  | int b => cases q; exact .int _
  | str b => cases q; exact .str _
  | lst xs => cases q with | lst a b => exact .lst (e _ _ a)
  | tup xs => cases q with | tup a b => exact .tup (e _ _ a)
  | dct xs => cases q with | dct a b => exact .dK (e _ _ a)
  | obj fs cl ha hn htk hm => cases q with | obj a b => exact .ins (e _ _ a) cl ha hn htk hm
/-- a class as a datum -/
inductive ClD : D → Value → Prop where
  | ty (n : String) : ClD (.ty n) (.type n)
  | own (C : Addr) : ClD (.adr C) (.ref C)
theorem cd_isi {c : D} {t u : Value} {b : Bool} (ht : TyD X.K d t) (hc : ClD c u) (hk : PySem.W.kitOne X.K t u = some b) : CallD X (.builtin "isinstance") [d, c] (.val (.bl b)) := callr_imp call_isi fun vs H Q ⟨Hs, e, dn, kq⟩ => by
  obtain ⟨v, v', rfl, d1, d2⟩ := two dn
  refine ⟨v, v', t, u, b, rfl, ?_, .base (ht.of e d1), hk, kq _ Hs H (Gr.refl e) (.bl b)⟩
  cases hc with
  | ty n => cases d2; exact .ty n
  | own C => cases d2; exact .own C
inductive ClDs : List D → List Value → Prop where
  | nil : ClDs [] []
  | cons {c : D} {u : Value} {cs : List D} {us : List Value} (h : ClD c u) (t : ClDs cs us) : ClDs (c :: cs) (u :: us)
theorem ClDs.of {K : PySem.W.Frag} {Hs : Hp} : ∀ {cs : List D} {us : List Value} {vs : List V}, ClDs cs us → Dens K Hs vs cs → Paired ClsV vs us
  | _, _, _, .nil, .nil => .nil
  | _, _, _, .cons (.ty n) t, .cons (.ty _) q => .cons (.ty n) (ClDs.of t q)
  | _, _, _, .cons (.own C) t, .cons (.adr _) q => .cons (.own C) (ClDs.of t q)
theorem cd_isiT {cs : List D} {t : Value} {us : List Value} {b : Bool} (ht : TyD X.K d t) (hc : ClDs cs us) (hk : PySem.W.kitAny X.K t us = some b) : CallD X (.builtin "isinstance") [d, .tup cs] (.val (.bl b)) := callr_imp call_isiT fun vs H Q ⟨Hs, e, dn, kq⟩ => by
  obtain ⟨v, v', rfl, d1, d2⟩ := two dn
  cases d2 with
  | tup a q => exact ⟨v, _, _, t, us, b, rfl, e _ _ a, hc.of q, .base (ht.of e d1), hk, kq _ Hs H (Gr.refl e) (.bl b)⟩
/-- str(x), repr(x) by the class's own defs -/
theorem back_str {pins : List (Addr × Obj)} {σ : L2.St} {Q : VK} {u : Value} {s : Shared} {z : Str} (h : EP X pins σ (fun w H' => w = .str z ∧ Q w H') u s) : PySem.W.StrBack (EP X pins σ Q) u s := by
  obtain ⟨v, H', I, rel, rfl, q⟩ := h
  obtain ⟨t, rfl⟩ := rel
  exact ⟨.str z, H', I, ⟨t, rfl⟩, q⟩
theorem units_in {A : Around} {n : Nat} (h : Room n A) : A.in1.in1.units < cLine := by
  have := h.units
  show A.units + 1 + 1 < cLine
  omega
theorem cd_strO {z : Str} (at_ : PySem.W.findIn X.K (.ref C) "__str__" = some (some (.ref f))) (fn : PySem.W.isFn X.K (.ref f) = true) (F : FnOk X.prog X.w X.K X.mg X.base CX0 k f fd ps (spD X.K S)) (hb : Binds X.K fd ps []) (hr : Room j X.A) (hS : S [.obj C fs] (.val (.str z))) (hk : k + 2 ≤ j := by decide) : CallD X (.type "str") [.obj C fs] (.val (.str z)) := by
  intro pins s σ H xs us Q I r1 ⟨Hs, e, dn, kq⟩
  obtain ⟨v, rfl, d1⟩ := one dn
  obtain ⟨u, rfl, r2⟩ := vals1 r1
  obtain ⟨a, ox, od, rfl, rfl, J⟩ := inst_of I e d1 r2
  have room := hr.mono hk
  refine PySem.W.kso_call (units_in room) I.kIn J at_ fn (thn (runAt F room.in1.in1 hb I I.env0.in1.in1 (.cons r2 .nil) e (.cons d1 .nil) hS fun w Hs' H' g q => ?_) fun _ _ y => back_str (z := z) y)
  have q' : Den X.K Hs' w (.str z) := q
  cases q'
  exact ⟨rfl, kq _ Hs' H' g q⟩
theorem cd_reprO {z : Str} (at_ : PySem.W.findIn X.K (.ref C) "__repr__" = some (some (.ref f))) (fn : PySem.W.isFn X.K (.ref f) = true) (F : FnOk X.prog X.w X.K X.mg X.base CX0 k f fd ps (spD X.K S)) (hb : Binds X.K fd ps []) (hr : Room j X.A) (hS : S [.obj C fs] (.val (.str z))) (hk : k + 1 ≤ j := by decide) : CallD X (.builtin "repr") [.obj C fs] (.val (.str z)) := by
  intro pins s σ H xs us Q I r1 ⟨Hs, e, dn, kq⟩
  obtain ⟨v, rfl, d1⟩ := one dn
  obtain ⟨u, rfl, r2⟩ := vals1 r1
  obtain ⟨a, ox, od, rfl, rfl, J⟩ := inst_of I e d1 r2
  have room := hr.mono hk
  obtain ⟨m, Fr⟩ := I.fr
  have hu : X.A.in1.units < cLine := by
    have := room.units
    show X.A.units + 1 < cLine
    omega
  refine PySem.W.repr_K hu Fr I.ok.mod.kin J at_ fn (thn (runAt F room.in1 hb I I.env0.in1 (.cons r2 .nil) e (.cons d1 .nil) hS fun w Hs' H' g q => ?_) fun _ _ y => back_str (z := z) y)
  have q' : Den X.K Hs' w (.str z) := q
  cases q'
  exact ⟨rfl, kq _ Hs' H' g q⟩
/-- x == y by the class's __eq__, y of any type t that is not a class below it -/
theorem looks_ty {pins : List (Addr × Obj)} {σ : L2.St} {H Hs : Hp} {s : Shared} {v : V} {u t : Value} (I : Inv X pins σ H s) (e : Ex Hs H) (ht : TyD X.K d t) (h : Den X.K Hs v d) (rel : RelV v u) : PySem.W.Looks (model X.prog X.w) s.heap (typeOf u) t := by
  cases ht with
  | non => cases h; cases rel; exact PySem.W.Looks.of_pure rfl
  | bl b => cases h; cases rel; exact PySem.W.Looks.of_pure rfl
  | int b => cases h; obtain ⟨t, rfl⟩ := rel; exact PySem.W.Looks.of_pure rfl
  | str b => cases h; obtain ⟨t, rfl⟩ := rel; exact PySem.W.Looks.of_pure rfl
  | lst xs =>
    cases h with
    | lst a b =>
      cases rel
      obtain ⟨_, its, n, _, z⟩ : _ ≤ sizeLine ∧ ∃ (its : List Value) (n : Nat), Vals _ its ∧ s.heap.get? _ = some { cls := .type "list", data := .seq its.toArray n } := I.hok _ _ (e _ _ a)
      exact (PySem.W.Looks.ld z).andThen .now
  | tup xs =>
    cases h with
    | tup a b =>
      cases rel
      obtain ⟨_, its, _, o, z, c, _⟩ := (show ObjOk X.prog X.w H s.heap _ (.tup _) from I.hok _ _ (e _ _ a))
      refine (PySem.W.Looks.ld z).andThen ?_
      rw [c]
      exact .now
  | dct xs =>
    cases h with
    | dct a b =>
      cases rel
      obtain ⟨_, _, vs, _, o, es, ep, z, c, _⟩ := (show ObjOk X.prog X.w H s.heap _ (.dK _) from I.hok _ _ (e _ _ a))
      refine (PySem.W.Looks.ld z).andThen ?_
      rw [c.1]
      exact .now
  | obj fs cl ha hn htk hm =>
    obtain ⟨a, ox, od, rfl, rfl, J⟩ := inst_of I e h rel
    exact J.type
theorem bd_cmpO {op : CmpOp} {t : Value} (hop : ∀ a b, compareOp op a b = richCompare op a b) (at_ : PySem.W.findIn X.K (.ref C) (cmpInfo op).2.1 = some (some (.ref f))) (fn : PySem.W.isFn X.K (.ref f) = true) (ht : TyD X.K d t) (nf : PySem.W.notFirst X.K C t = true)
    (F : FnOk X.prog X.w X.K X.mg X.base CX0 k f fd ps (spD X.K S)) (hb : Binds X.K fd ps []) (hr : Room j X.A) (hS : S [.obj C fs, d] r) (hk : k ≤ j := by decide) : BinD X (compareOp op) (.obj C fs) d r := by
  intro pins s σ H x y v u Q I r1 r2 ⟨Hs, e, d1, d2, kq⟩
  obtain ⟨a, ox, od, rfl, rfl, J⟩ := inst_of I e d1 r1
  obtain ⟨m, Fr⟩ := I.fr
  rw [hop]
  exact PySem.W.cmp_K (hr.mono hk).units0 Fr I.ok.mod.kin J (looks_ty I e ht d2 r2) nf at_ fn (thn (runAt F (hr.mono hk) hb I I.env0 (.cons r1 (.cons r2 .nil)) e (.cons d1 (.cons d2 .nil)) hS kq) fun _ _ z => back_cmp z)
end
end Dn
end

section
set_option Elab.async false
set_option linter.all false
set_option maxRecDepth 100000
set_option maxHeartbeats 2000000
/-! DMore: slices, f-strings, all, any, zip, enumerate, lists that grow, pairs stored, keywords, classmethods, == of data. -/
namespace Dn
open PySem PySem.Spec L2
section
variable {X : Cx} {bi : Bool} {ρ ρ1 ρ2 ρ3 : Rho} {p pos pos2 apos : Pos} {e e2 a b : Expr} {es : List Expr} {r : Res} {d : D} {k : Kn}

/-! ### all, any -/
theorem den_bools {K : PySem.W.Frag} {Hs : Hp} : ∀ {bs : List Bool} {vs : List V}, Dens K Hs vs (bs.map D.bl) → vs = bs.map V.bl
  | [], _, .nil => rfl
  | b :: bs, _, .cons h t => by
    cases h
    rw [den_bools t]
    rfl
theorem cd_all {bs : List Bool} (hc : X.calm = true := by rfl) : CallD X (.builtin "all") [.lst (bs.map D.bl)] (.val (.bl (bs.all id))) := callr_imp (cr_all hc) fun vs H Q ⟨Hs, e, dn, kq⟩ => by
  obtain ⟨v, rfl, d1⟩ := one dn
  cases d1 with
  | lst q1 q2 =>
    have := den_bools q2
    subst this
    exact ⟨_, bs, rfl, SqL.of (e _ _ q1), kq _ Hs H (Gr.refl e) (.bl _)⟩
theorem cd_any {bs : List Bool} (hc : X.calm = true := by rfl) : CallD X (.builtin "any") [.lst (bs.map D.bl)] (.val (.bl (bs.any id))) := callr_imp (cr_any hc) fun vs H Q ⟨Hs, e, dn, kq⟩ => by
  obtain ⟨v, rfl, d1⟩ := one dn
  cases d1 with
  | lst q1 q2 =>
    have := den_bools q2
    subst this
    exact ⟨_, bs, rfl, SqL.of (e _ _ q1), kq _ Hs H (Gr.refl e) (.bl _)⟩

/-! ### slices -/
def rdP (K : PySem.W.Frag) (ρ : Rho) (o : Option Int) (ρ' : Rho) : TO := fun σ H Q => ∃ io Hf Hs, EnvOk K io ρ σ Hf Hs H ∧ ∀ Hs' H', EnvOk K io ρ' σ Hf Hs' H' → ExF Hf Hs Hs' → Q o H'
def POD (X : Cx) (e : Option Expr) (ρ : Rho) (o : Option Int) (ρ' : Rho) : Prop := PO X e (rdP X.K ρ o ρ')
theorem po_imp {e : Option Expr} {t t' : TO} (h : PO X e t) (i : ∀ σ H Q, t' σ H Q → t σ H Q) : PO X e t' := ⟨fun pins s σ H Q I q => h.run pins s σ H Q I (i σ H Q q)⟩
theorem pod_none : POD X none ρ none ρ := po_imp po_none fun σ H Q ⟨io, Hf, Hs, E, k⟩ => k Hs H E ExF.refl
theorem pod_some {i : Int} (h : PD X e ρ (.val (.int i)) ρ1) : POD X (some e) ρ (some i) ρ1 := po_imp (po_some h) fun σ H Q ⟨io, Hf, Hs, E, k⟩ => ⟨io, Hf, Hs, E, fun v Hs' H' E' f q => by
  cases q
  exact ⟨i, rfl, k Hs' H' E' f⟩⟩
def cutD (xs : List D) (lo hi : Option Int) : List D := (xs.drop (HT.sIx xs.length 0 lo)).take (HT.sIx xs.length xs.length hi - HT.sIx xs.length 0 lo)
theorem dens_cut {K : PySem.W.Frag} {H : Hp} {vs : List V} {ds : List D} {lo hi : Option Int} (h : Dens K H vs ds) : Dens K H (cutV vs lo hi) (cutD ds lo hi) := by
  unfold cutV cutD
  rw [h.length]
  exact (h.drop _).take _
theorem pd_sliceL {xs : List D} {lo hi : Option Expr} {l u : Option Int} (ha : PD X a ρ (.val (.lst xs)) ρ1) (hl : POD X lo ρ1 l ρ2) (hu : POD X hi ρ2 u ρ3) : PD X (.Subscript a (.Slice lo hi none pos2) pos) ρ (.own (.lst (cutD xs l u))) ρ3 :=
  pe_imp (pe_slice sl_list ha hl hu) fun σ H Q ⟨io, Hf, Hs, E, k⟩ => ⟨io, Hf, Hs, E, fun v Hs1 H1 E1 f1 q1 => ⟨io, Hf, Hs1, E1, fun Hs2 H2 E2 f2 => ⟨io, Hf, Hs2, E2, fun Hs3 H3 E3 f3 => by
    have q2 := Den.mono (f2.trans f3).ex q1
    cases q2 with
    | lst z1 z2 =>
      refine ⟨_, _, rfl, SqL.of (E3.st _ _ z1), fun p hp => ?_⟩
      obtain ⟨E4, f4⟩ := E3.gr (Gr.newo (o := .lst _) E3.st hp)
      exact k _ _ _ E4 (((f1.trans f2).trans f3).trans f4) (E3.ret (r := .own (.lst _)) ⟨p, rfl, hp, E3.st.none hp, _, upd_same, dens_cut z2⟩)⟩⟩⟩
theorem pd_sliceS {x : Str} {lo hi : Option Expr} {l u : Option Int} (ha : PD X a ρ (.val (.str x)) ρ1) (hl : POD X lo ρ1 l ρ2) (hu : POD X hi ρ2 u ρ3) (hz : x.length ≤ 1000000) : PD X (.Subscript a (.Slice lo hi none pos2) pos) ρ (.val (.str (cutS x l u))) ρ3 :=
  pe_imp (pe_slice sl_str ha hl hu) fun σ H Q ⟨io, Hf, Hs, E, k⟩ => ⟨io, Hf, Hs, E, fun v Hs1 H1 E1 f1 q1 => ⟨io, Hf, Hs1, E1, fun Hs2 H2 E2 f2 => ⟨io, Hf, Hs2, E2, fun Hs3 H3 E3 f3 => by
    cases q1
    exact ⟨x, rfl, by rw [sizeLine_eq]; omega, k _ Hs3 H3 E3 ((f1.trans f2).trans f3) (.str _)⟩⟩⟩⟩

/-! ### f-strings -/
theorem pd_fmtS {x : Str} (h : PD X e ρ (.val (.str x)) ρ1) (hz : x.length ≤ 1000000) : PD X (.FormattedValue e (-1) none pos) ρ (.val (.str x)) ρ1 := pe_imp (pe_fmt h) fun σ H Q ⟨io, Hf, Hs, E, k⟩ => ⟨io, Hf, Hs, E, fun v Hs' H' E' f q => by
  cases q
  exact .inl ⟨x, rfl, by rw [sizeLine_eq]; omega, k _ Hs' H' E' f (.str _)⟩⟩
theorem pd_fmtI {i : Int} (h : PD X e ρ (.val (.int i)) ρ1) (hz : i.natAbs.log2 < 1920) : PD X (.FormattedValue e (-1) none pos) ρ (.val (.str (toString i))) ρ1 := pe_imp (pe_fmt h) fun σ H Q ⟨io, Hf, Hs, E, k⟩ => ⟨io, Hf, Hs, E, fun v Hs' H' E' f q => by
  cases q
  exact .inr ⟨i, rfl, hz, k _ Hs' H' E' f (.str _)⟩⟩
theorem pd_js1 (h : PD X e ρ r ρ1) : PD X (.JoinedStr [e] pos) ρ r ρ1 := pe_joined1 h
/-- the parts, one text each (no part changes the slots) -/
inductive PJD (X : Cx) (ρ : Rho) : List Expr → List Str → Prop where
  | nil : PJD X ρ [] []
  | cons {e : Expr} {x : Str} {es : List Expr} {xs : List Str} (h : PD X e ρ (.val (.str x)) ρ) (t : PJD X ρ es xs) : PJD X ρ (e :: es) (x :: xs)
def joinD : Str → List Str → Str
  | acc, [] => acc
  | acc, x :: xs => joinD (acc ++ x) xs
def lensD : Str → List Str → Prop
  | _, [] => True
  | acc, x :: xs => (acc ++ x).length ≤ 1000000 ∧ lensD (acc ++ x) xs
theorem pjd_pj {ρ : Rho} : ∀ {es : List Expr} {xs : List Str}, PJD X ρ es xs → ∃ ts, PJ X es ts ∧ ∀ acc io σ Hf Hs H (Q : Str → Hp → Prop), lensD acc xs → EnvOk X.K io ρ σ Hf Hs H → (∀ Hs' H', EnvOk X.K io ρ σ Hf Hs' H' → ExF Hf Hs Hs' → Q (joinD acc xs) H') → tJs ts acc σ H Q
  | _, _, .nil => ⟨[], .nil, fun acc io σ Hf Hs H Q _ E k => k Hs H E ExF.refl⟩
  | _, _, .cons (x := x) h t => by
    obtain ⟨ts, h1, h2⟩ := pjd_pj t
    refine ⟨_ :: ts, .cons h h1, fun acc io σ Hf Hs H Q l E k => ⟨io, Hf, Hs, E, fun v Hs' H' E' f q => ?_⟩⟩
    cases q
    exact ⟨x, rfl, by rw [sizeLine_eq]; have := l.1; omega, h2 _ io σ Hf Hs' H' Q l.2 E' fun Hs2 H2 E2 f2 => k Hs2 H2 E2 (f.trans f2)⟩
theorem pd_js {v1 v2 : Expr} {rest : List Expr} {xs : List Str} (h : PJD X ρ (v1 :: v2 :: rest) xs) (hl : lensD Str.empty xs) : PD X (.JoinedStr (v1 :: v2 :: rest) pos) ρ (.val (.str (joinD Str.empty xs))) ρ := by
  obtain ⟨ts, h1, h2⟩ := pjd_pj h
  exact pe_imp (pe_joined h1) fun σ H Q ⟨io, Hf, Hs, E, k⟩ => h2 _ io σ Hf Hs H _ hl E fun Hs' H' E' f => k _ Hs' H' E' f (.str _)

/-! ### lists that grow -/
theorem own_lst {K : PySem.W.Frag} {io : Option Addr} {σ : L2.St} {Hf Hs H : Hp} {i : Nat} {ds : List D} (E : EnvOk K io ρ σ Hf Hs H) (h : ρ[i]? = some (.own (.lst ds))) : ∃ a vs, σ[i]? = some (some (.ref a)) ∧ H a = some (.lst vs) ∧ Dens K Hs vs ds := by
  obtain ⟨a, h1, ⟨vs, h2, h3⟩, _⟩ := E.own i _ h
  exact ⟨a, vs, h1, h2, h3⟩
theorem ps1_append (i : Nat) {x : Str} {px : Pos} {ds : List D} (he : PD X e ρ (.val d) ρ1) (h1 : ρ1[i]? = some (.own (.lst ds)) := by rfl) (hz : ds.length ≤ 1000000) (hk : k.nx (ρ1.set i (.own (.lst (ds ++ [d])))) := by rfl) (h0 : ∃ d0, ρ[i]? = some (.own (.lst d0)) := by exact ⟨_, rfl⟩) (hN : X.N[i]? = some x := by rfl)
    (hv : Vis X.env.scope x := by first | exact Or.inl rfl | exact Or.inr (Or.inl rfl) | exact Or.inr (Or.inr rfl)) (hd : (x == ("__debug__" : Str)) = false := by decide) (hcd : (x == ("__classdict__" : Str)) = false := by decide)
    (hbase : attributeBase (.Name x px) "append" X.env (eval (.Name x px) X.env) = eval (.Name x px) X.env := by rfl)
    (hfew : ((backTo p (starEach [e] X.env)).all (fun x => !x.1) && (backToKw p (keywordEach [] X.env)).all (fun x => x.1.isSome) && decide ([e].length + ([] : List Keyword).length + (if ([] : List Keyword).isEmpty then 0 else 1) < 30)) = true := by rfl)
    (hline : (apos.endLine == p.line) = true := by rfl) (hs : starEach [e] X.env = (false, eval e X.env) :: starEach [] X.env := by rfl) (hplain : (backTo p (starEach [] X.env)).any (·.1) = false := by rfl)
    (hsw : swapsWith (.Call (.Attribute (.Name x px) "append" apos) [e] [] p) none pos.line X.env = pure false := by rfl) : PS1 X bi (.Expr (.Call (.Attribute (.Name x px) "append" apos) [e] [] p) pos) ρ k :=
  ps_imp (ps_expr (pe_bm PySem.F.plainAttrs_list PySem.F.slot_list_append PySem.F.type_list_append mt_append (pe_var hN hv hd hcd) (pa_cons he pa_nil hs) hbase hfew hline hs hplain) hsw) fun Z σ H ⟨io, Hf, Hs, hb, E, kk⟩ => by
    obtain ⟨d0, h0⟩ := h0
    obtain ⟨a, vs0, g1, g2, g3⟩ := own_lst E h0
    refine ⟨_, g1, .inl ⟨rfl, _, SqL.of g2⟩, io, Hf, Hs, E, fun v Hs1 H1 E1 f1 q1 => ?_⟩
    obtain ⟨a', vs, y1, y2, y3⟩ := own_lst E1 h1
    rw [g1] at y1
    cases y1
    exact ⟨a, vs, v, rfl, rfl, y2, by rw [y3.length, sizeLine_eq]; omega, kk.nx _ _ Hs1 _ hk (E1.change h1 g1 ⟨_, upd_same, y3.append (.cons q1 .nil)⟩) f1⟩
theorem ps1_extend (i : Nat) {x : Str} {px : Pos} {ds es' : List D} (he : PD X e ρ (.val (.lst es')) ρ1) (h1 : ρ1[i]? = some (.own (.lst ds)) := by rfl) (hz : ds.length + es'.length ≤ 1000000) (hk : k.nx (ρ1.set i (.own (.lst (ds ++ es')))) := by rfl) (h0 : ∃ d0, ρ[i]? = some (.own (.lst d0)) := by exact ⟨_, rfl⟩) (hN : X.N[i]? = some x := by rfl)
    (hv : Vis X.env.scope x := by first | exact Or.inl rfl | exact Or.inr (Or.inl rfl) | exact Or.inr (Or.inr rfl)) (hd : (x == ("__debug__" : Str)) = false := by decide) (hcd : (x == ("__classdict__" : Str)) = false := by decide)
    (hbase : attributeBase (.Name x px) "extend" X.env (eval (.Name x px) X.env) = eval (.Name x px) X.env := by rfl)
    (hfew : ((backTo p (starEach [e] X.env)).all (fun x => !x.1) && (backToKw p (keywordEach [] X.env)).all (fun x => x.1.isSome) && decide ([e].length + ([] : List Keyword).length + (if ([] : List Keyword).isEmpty then 0 else 1) < 30)) = true := by rfl)
    (hline : (apos.endLine == p.line) = true := by rfl) (hs : starEach [e] X.env = (false, eval e X.env) :: starEach [] X.env := by rfl) (hplain : (backTo p (starEach [] X.env)).any (·.1) = false := by rfl)
    (hsw : swapsWith (.Call (.Attribute (.Name x px) "extend" apos) [e] [] p) none pos.line X.env = pure false := by rfl) : PS1 X bi (.Expr (.Call (.Attribute (.Name x px) "extend" apos) [e] [] p) pos) ρ k :=
  ps_imp (ps_expr (pe_bm PySem.F.plainAttrs_list PySem.F.slot_list_extend PySem.F.type_list_extend mt_extend (pe_var hN hv hd hcd) (pa_cons he pa_nil hs) hbase hfew hline hs hplain) hsw) fun Z σ H ⟨io, Hf, Hs, hb, E, kk⟩ => by
    obtain ⟨d0, h0⟩ := h0
    obtain ⟨a, vs0, g1, g2, g3⟩ := own_lst E h0
    refine ⟨_, g1, .inl ⟨rfl, _, SqL.of g2⟩, io, Hf, Hs, E, fun v Hs1 H1 E1 f1 q1 => ?_⟩
    obtain ⟨a', vs, y1, y2, y3⟩ := own_lst E1 h1
    rw [g1] at y1
    cases y1
    have q0 : Den X.K Hs1 v (.lst es') := q1
    cases q0 with
    | lst z1 z2 => exact ⟨a, _, vs, _, rfl, rfl, y2, E1.st _ _ z1, by rw [y3.length, z2.length, sizeLine_eq]; omega, kk.nx _ _ Hs1 _ hk (E1.change h1 g1 ⟨_, upd_same, y3.append z2⟩) f1⟩

/-! ### pairs stored -/
theorem ps1_par {x y : Str} {px py pt : Pos} {kt k2 : Nat} {pt2 : Pos} {d' : D} (i j : Nat) (ha : PAD X [a, b] ρ [d, d'] ρ1) (hN : X.N.Nodup) (hk : k.nx ((ρ1.set i (.val d)).set j (.val d')) := by rfl) (hi : X.N[i]? = some x := by rfl) (hj : X.N[j]? = some y := by rfl) (hij : i ≠ j := by decide)
    (hx : X.env.scope.names.lookup x = some .local := by rfl) (hy : X.env.scope.names.lookup y = some .local := by rfl) (hio : (i ≠ 0 ∧ j ≠ 0) ∨ bi = false := by first | exact Or.inl (by decide) | exact Or.inr rfl) (hc : X.calm = true := by rfl)
    (hw : swappedStores [.Tuple [.Name x px, .Name y py] kt pt] (.Tuple [a, b] k2 pt2) X.env = pure (some [x, y]) := by rfl)
    (hs : swapsWithSole [.Tuple [.Name x px, .Name y py] kt pt] (.Tuple [a, b] k2 pt2) pos.line X.env = pure false := by rfl) : PS1 X bi (.Assign [.Tuple [.Name x px, .Name y py] kt pt] (.Tuple [a, b] k2 pt2) pos) ρ k :=
  ps_imp (ps_par hc hN hi hj hij hx hy ha hw hs) fun Z σ H ⟨io, Hf, Hs, hb, E, kk⟩ => ⟨io, Hf, Hs, E, fun vs Hs1 H1 E1 f1 q1 => by
    obtain ⟨v, v', rfl, d1, d2⟩ := two q1
    refine ⟨v, v', rfl, kk.nx _ _ Hs1 H1 hk ((E1.setv d1 ?_).setv d2 ?_) f1⟩
    · rcases hio with z | z
      · exact .inl z.1
      · exact .inr (hb z)
    · rcases hio with z | z
      · exact .inl z.2
      · exact .inr (hb z)⟩
/-- (a, b, ..) = a list of that length -/
theorem pgd_unl {tgs : List Expr} {ts : List Nat} {g : List D → Rho → Rho → Prop} {kk n : Nat} (hc : X.calm = true) (h : PGsD X bi tgs ts g) (hn : (assignEach tgs X.env).length = n := by rfl) (hst : (assignEach tgs X.env).findIdx? (·.1) = none := by rfl) :
    PGD X bi (.Tuple tgs kk pos) ts (fun d ρ ρ' => ∃ ds, d = .lst ds ∧ ds.length = n ∧ g ds ρ ρ') :=
  pg_imp (pg_unl hc h hn hst) fun v σ H Q ⟨io, Hf, Hs, ρ, ρ', d, hb, E, h, ⟨ds, e, hl, hg⟩, k⟩ => by
    subst e
    cases h with
    | lst q1 q2 => exact ⟨_, _, rfl, SqL.of (E.st _ _ q1), q2.length.trans hl, io, Hf, Hs, ρ, ρ', ds, hb, E, q2, hg, k⟩

/-! ### zip, enumerate -/
theorem pid_zip {xs ys : List D} {elts : List Expr} {kk : Nat} {tpos : Pos} (hm : X.mg "zip" = none) (ha : PAD X [e, e2] ρ [.lst xs, .lst ys] ρ1) (hg : Gl X "zip" := by rfl)
    (hs : starEach [e, e2] X.env = (false, eval e X.env) :: starEach [e2] X.env := by rfl) (hpl : (backTo pos (starEach [e2] X.env)).any (·.1) = false := by rfl) :
    PID X (.Tuple elts kk tpos) (.Call (.Name "zip" p) [e, e2] [] pos) ρ (List.zipWith (fun x y => D.tup [x, y]) xs ys) ρ1 :=
  pi_imp (pi_zip hg hm ha hs hpl) fun σ H Q ⟨io, Hf, Hs, E, k⟩ => ⟨io, Hf, Hs, E, fun vs Hs1 H1 E1 f1 q1 => by
    obtain ⟨v, v', rfl, d1, d2⟩ := two q1
    cases d1 with
    | lst a1 a2 =>
      cases d2 with
      | lst b1 b2 =>
        refine ⟨_, _, _, _, rfl, SqL.of (E1.st _ _ a1), SqL.of (E1.st _ _ b1), k _ Hs1 H1 E1 f1 ?_⟩
        refine pairs_walk (walk_zip rfl) (by rw [List.length_zipWith, a2.length, b2.length]) (fun H h => ⟨SqL.of (h _ _ a1), SqL.of (h _ _ b1)⟩) fun i x y hi hx hy => ?_
        obtain ⟨dx, z1, z2⟩ := a2.get' hx
        obtain ⟨dy, z3, z4⟩ := b2.get' hy
        exact ⟨dx, dy, by rw [List.getElem?_zipWith, z1, z3], z2, z4⟩⟩
theorem pid_enum {xs : List D} {elts : List Expr} {kk : Nat} {tpos : Pos} (hm : X.mg "enumerate" = none) (ha : PAD X [e] ρ [.lst xs] ρ1) (hg : Gl X "enumerate" := by rfl) (hs : starEach [e] X.env = [(false, eval e X.env)] := by rfl) :
    PID X (.Tuple elts kk tpos) (.Call (.Name "enumerate" p) [e] [] pos) ρ (List.zipWith (fun x y => D.tup [x, y]) (rng 0 xs.length) xs) ρ1 :=
  pi_imp (pi_enum hg hm ha hs) fun σ H Q ⟨io, Hf, Hs, E, k⟩ => ⟨io, Hf, Hs, E, fun vs Hs1 H1 E1 f1 q1 => by
    obtain ⟨v, rfl, d1⟩ := one q1
    cases d1 with
    | lst a1 a2 =>
      refine ⟨_, _, rfl, SqL.of (E1.st _ _ a1), k _ Hs1 H1 E1 f1 ?_⟩
      refine pairs_walk walk_enum (by rw [List.length_zipWith, rng_len, a2.length]; omega) (fun H h => SqL.of (h _ _ a1)) fun i x y hi hx hy => ?_
      obtain ⟨dy, z3, z4⟩ := a2.get' hy
      cases hx
      refine ⟨.int i, dy, ?_, .int _, z4⟩
      rw [List.getElem?_zipWith, z3, rng_get (by rw [← a2.length]; exact hi)]
      simp⟩

/-! ### == of data without instances -/
mutual
inductive Pl : D → PyData → Prop
  | non : Pl .non .none
  | bl (b : Bool) : Pl (.bl b) (.bool b)
  | int (i : Int) : Pl (.int i) (.int i)
  | str (x : Str) : Pl (.str x) (.str x)
  | lst {ds : List D} {ps : List PyData} : Pls ds ps → Pl (.lst ds) (.list ps)
  | tup {ds : List D} {ps : List PyData} : Pls ds ps → Pl (.tup ds) (.tuple ps)
inductive Pls : List D → List PyData → Prop
  | nil : Pls [] []
  | cons {d : D} {p : PyData} {ds : List D} {ps : List PyData} : Pl d p → Pls ds ps → Pls (d :: ds) (p :: ps)
end
mutual
theorem Pl.dp {K : PySem.W.Frag} {Hs H : Hp} (e : Ex Hs H) : ∀ {d : D} {p : PyData} {v : V}, Pl d p → Den K Hs v d → Dp K H v p
  | _, _, _, .non, .non => .non
  | _, _, _, .bl b, .bl _ => .bl b
  | _, _, _, .int i, .int _ => .int i
  | _, _, _, .str x, .str _ => .str x
  | _, _, _, .lst h, .lst q1 q2 => .lst (SqL.of (e _ _ q1)) (Pls.dp e h q2)
  | _, _, _, .tup h, .tup q1 q2 => .tup (SqT.of (e _ _ q1)) (Pls.dp e h q2)
theorem Pls.dp {K : PySem.W.Frag} {Hs H : Hp} (e : Ex Hs H) : ∀ {ds : List D} {ps : List PyData} {vs : List V}, Pls ds ps → Dens K Hs vs ds → DpAll K H vs ps
  | _, _, _, .nil, .nil => .nil
  | _, _, _, .cons h t, .cons q r => .cons (Pl.dp e h q) (Pls.dp e t r)
end
theorem bd_eqP {d d' : D} {q q' : PyData} {n : Nat} (h : Pl d q) (h' : Pl d' q') (s1 : SeqAt.shaped q = true) (s2 : SeqAt.shaped q' = true) (hr : Room n X.A) : BinD X (compareOp .Eq) d d' (.val (.bl (PyData.eqv q q'))) :=
  opr_imp (op_eqD hr.units) fun u v H Q ⟨Hs, e, d1, d2, k⟩ => ⟨q, q', h.dp e d1, h'.dp e d2, s1, s2, k _ Hs H (Gr.refl e) (.bl _)⟩
theorem bd_neP {d d' : D} {q q' : PyData} {n : Nat} (h : Pl d q) (h' : Pl d' q') (s1 : SeqAt.shaped q = true) (s2 : SeqAt.shaped q' = true) (hr : Room n X.A) : BinD X (compareOp .NotEq) d d' (.val (.bl (!PyData.eqv q q'))) :=
  opr_imp (op_neD hr.units) fun u v H Q ⟨Hs, e, d1, d2, k⟩ => ⟨q, q', h.dp e d1, h'.dp e d2, s1, s2, k _ Hs H (Gr.refl e) (.bl _)⟩
end
end Dn
end

section
set_option Elab.async false
set_option linter.all false
set_option maxRecDepth 100000
set_option maxHeartbeats 2000000
/-! DKeys: an int on the left of an instance, != by __eq__, calls with keywords, classmethods. -/
namespace Dn
open PySem PySem.Spec L2
section
variable {prog : Program} {w : World} {A : Around} {E : Value → Shared → Prop} {s : Shared} {a : Addr} {i : Int} {t : Tok}
/-- the int's own operator leaves an instance to the right -/
structure LeavesI (prog : Program) (w : World) (nm id : String) : Prop where
  slot : Slot "int" (PySem.dunder nm) id
  no : ∀ (A : Around) (E : Value → Shared → Prop) (s : Shared) (a : Addr) (o : Obj) (i : Int) (t : Tok) (Q : Value → Shared → Prop), s.heap.get? a = some o → o.data = .plain → Q .notImplemented s → wpAny (model prog w) A (call (.builtin id) [.int i t, .ref a]) Q E s
theorem leaves_add : LeavesI prog w "add" "int.__add__" := ⟨PySem.F.slot_int_add, fun A E s a o i t Q h1 h2 q => wpAny_call_entry PySem.F.slot_int_add (typeIs_int s i t) PySem.F.entry_int_add (by
  obtain ⟨hp, g, d, tk, os⟩ := s
  unfold Builtin.«int.__add__» Builtin.Int.intBinary
  refine wpAny_bind (wpAny_pure (wpAny_bind (wpAny_pure (wpAny_bind (wpAny_bind (wpAny_load h1 ?_))))))
  rw [h2]
  exact wpAny_pure (wpAny_bind (wpAny_rule (wpAny_pure ⟨_, rfl, q⟩)))) (PySem.F.args_int_add_2 _ _)⟩
theorem leaves_sub : LeavesI prog w "sub" "int.__sub__" := ⟨PySem.F.slot_int_sub, fun A E s a o i t Q h1 h2 q => wpAny_call_entry PySem.F.slot_int_sub (typeIs_int s i t) PySem.F.entry_int_sub (by
  obtain ⟨hp, g, d, tk, os⟩ := s
  unfold Builtin.«int.__sub__» Builtin.Int.intBinary
  refine wpAny_bind (wpAny_pure (wpAny_bind (wpAny_pure (wpAny_bind (wpAny_bind (wpAny_load h1 ?_))))))
  rw [h2]
  exact wpAny_pure (wpAny_bind (wpAny_rule (wpAny_pure ⟨_, rfl, q⟩)))) (PySem.F.args_int_sub_2 _ _)⟩
theorem leaves_mul : LeavesI prog w "mul" "int.__mul__" := ⟨PySem.F.slot_int_mul, fun A E s a o i t Q h1 h2 q => wpAny_call_entry PySem.F.slot_int_mul (typeIs_int s i t) PySem.F.entry_int_mul (by
  obtain ⟨hp, g, d, tk, os⟩ := s
  unfold Builtin.«int.__mul__» Builtin.Int.intBinary
  refine wpAny_bind (wpAny_pure (wpAny_bind (wpAny_pure (wpAny_bind (wpAny_bind (wpAny_load h1 ?_))))))
  rw [h2]
  exact wpAny_pure (wpAny_bind (wpAny_rule (wpAny_pure ⟨_, rfl, q⟩)))) (PySem.F.args_int_mul_2 _ _)⟩
end
section
variable {prog : Program} {w : World} {A : Around} {E : Value → Shared → Prop} {s : Shared} {K : PySem.W.Frag} {x C L f : Addr} {h0 : Heap} {m : Str → Option Value} {ox : Obj} {od : Option Obj} {i : Int} {t : Tok}
/-- int op instance, by the instance's reflected def g; the class has a plain def for op too -/
theorem refl_own {op : Operator} {id : String} {g : Addr} {fo ro : Option Value} {Q : Value → Shared → Prop} (lv : LeavesI prog w op.info.2 id) (X : K.In s.heap) (J : PySem.W.InstAt s.heap x ox C od) (hpl : ox.data = .plain) (hc : PySem.W.selfFirst K C = true)
    (hs : PySem.W.findIn K (.ref C) (PySem.dunder op.info.2) = some (some (.ref f))) (hr : PySem.W.findIn K (.ref C) (dunderR op.info.2) = some (some (.ref g))) (hg : PySem.W.isFn K (.ref g) = true)
    (h1 : PySem.W.findIn K (.type "int") (PySem.dunder op.info.2) = some fo) (h2 : PySem.W.findIn K (.type "int") (dunderR op.info.2) = some ro) (hsub : PySem.W.subIn K (.ref C) (.type "int") = some false)
    (hl : ((fo.isSome && !isSeqSlot fo) || (ro.isSome && !isSeqSlot ro)) = true)
    (h : wpAny (model prog w) A (call (.ref g) [.ref x, .int i t]) (PySem.W.CmpBack Q) E s) : wpAny (model prog w) A (binaryOp op (.int i t) (.ref x)) Q E s := by
  obtain ⟨cd, rest, hcd, hm⟩ := PySem.W.ksp_first hc
  rcases hi : op.info with ⟨sym, nm'⟩
  rw [hi] at lv hs hr h1 h2
  dsimp only at lv hs hr h1 h2
  have back := PySem.W.ksp_try X J hr hg h
  have no := lv.no A E s x ox i t (fun v s' => v = .notImplemented ∧ s' = s) J.at_ hpl ⟨rfl, rfl⟩
  have one : wpAny (model prog w) A (tryMethod (.int i t) (PySem.dunder nm') (.ref x)) (fun r s' => r = none ∧ s' = s) E s := by
    unfold tryMethod
    refine wpAny_bind (wpAny_callSpecial?_slot (typeIs_int s i t) lv.slot (wpAny_mono no (fun v s' z => ?_) fun _ _ e => e))
    obtain ⟨rfl, rfl⟩ := z
    exact wpAny_pure ⟨rfl, rfl⟩
  have L1 : PySem.W.Looks (model prog w) s.heap (typeOf (.int i t)) (.type "int") := PySem.W.Looks.of_pure rfl
  have L2' : PySem.W.Looks (model prog w) s.heap (typeOf (.ref x)) (.ref C) := J.type
  have L3 : PySem.W.Looks (model prog w) s.heap (fillsNumberSlot (.type "int") nm') true := by
    have z := PySem.W.ksp_fillsT (M := model prog w) X h1 h2
    rw [hl] at z
    exact z
  have L4 : PySem.W.Looks (model prog w) s.heap (fillsNumberSlot (.ref C) nm') true := PySem.W.fills_K X hcd hm hs
  have L5 : PySem.W.Looks (model prog w) s.heap (isSubtype (.ref C) (.type "int")) false := PySem.W.looks_subIn X hsub
  have L6 : PySem.W.Looks (model prog w) s.heap (numberSlotInPython (.type "int") nm') false := PySem.W.Looks.of_pure rfl
  have hne : (Value.type "int" == Value.ref C) = false := Bool.eq_false_iff.mpr fun q => by cases beq_iff_eq.mp q
  simp only [binaryOp, hi]
  refine wpAny_holding (wpAny_bind ?_)
  unfold binaryOp1
  refine wpAny_bind (L1.here (wpAny_bind (L2'.here (wpAny_bind (L3.here ?_)))))
  simp only [hne, Bool.false_eq_true, if_false]
  refine wpAny_bind (L4.here ?_)
  simp only [Bool.and_self, if_true]
  refine wpAny_bind (L5.here ?_)
  simp only [Bool.false_eq_true, if_false, pure_bind, Bool.not_false, Bool.and_self, if_true]
  refine wpAny_bind (L6.here ?_)
  simp only [Bool.false_eq_true, if_false, pure_bind]
  refine wpAny_bind (wpAny_mono one (fun r s' z => ?_) fun _ _ e => e)
  obtain ⟨rfl, rfl⟩ := z
  simp only [pure_bind]
  refine wpAny_bind (wpAny_mono back (fun r s' z => ?_) fun _ _ e => e)
  obtain ⟨v, rfl, q⟩ := z
  exact wpAny_bind (wpAny_rule (wpAny_pure (wpAny_pure q)))
end
section
variable {X : Cx} {k j : Nat} {f g C : Addr} {fd : FuncData} {ps : List Str} {S : List D → Res → Prop} {r : Res} {fs : List (Str × D)} {d : D}
/-- what a class must have so that its instances stand on the right of an int -/
structure OpR1 (K : PySem.W.Frag) (C : Addr) (nm : String) (g : Addr) : Prop where
  self : PySem.W.selfFirst K C = true
  has : ∃ f : Addr, PySem.W.findIn K (.ref C) (PySem.dunder nm) = some (some (.ref f))
  at_ : PySem.W.findIn K (.ref C) (dunderR nm) = some (some (.ref g))
  fn : PySem.W.isFn K (.ref g) = true
  lft : ∃ fo ro, PySem.W.findIn K (.type "int") (PySem.dunder nm) = some fo ∧ PySem.W.findIn K (.type "int") (dunderR nm) = some ro ∧ ((fo.isSome && !isSeqSlot fo) || (ro.isSome && !isSeqSlot ro)) = true
  sub : PySem.W.subIn K (.ref C) (.type "int") = some false
theorem bd_Iown {op : Operator} {id : String} {i : Int} (lv : LeavesI X.prog X.w op.info.2 id) (o : OpR1 X.K C op.info.2 g) (F : FnOk X.prog X.w X.K X.mg X.base CX0 k g fd ps (spD X.K S)) (hb : Binds X.K fd ps []) (hr : Room j X.A) (hS : S [.obj C fs, .int i] r) (hk : k ≤ j := by decide) : BinD X (binaryOp op) (.int i) (.obj C fs) r := by
  intro pins s σ H x y v u Q I r1 r2 ⟨Hs, e, d1, d2, kq⟩
  have d0 := d2
  cases d2 with
  | @obj a _ dx fv _ q1 q2 =>
    cases r2
    obtain ⟨mA, O, _⟩ := ins_get I.hok (e _ _ q1)
    obtain ⟨od, J, _⟩ := O.look
    obtain ⟨f, hf⟩ := o.has
    obtain ⟨fo, ro, g1, g2, g3⟩ := o.lft
    have d0' := d1
    cases d1
    obtain ⟨t, rfl⟩ := r1
    exact refl_own lv I.kIn J rfl o.self hf o.at_ o.fn g1 g2 o.sub g3 (thn (runAt (E := X.xe) (vs := [V.ref a, V.int i]) (us := [Value.ref a, Value.int i t]) F (hr.mono hk) hb I I.env0 (.cons rfl (.cons ⟨t, rfl⟩ .nil)) e (.cons d0 (.cons d0' .nil)) hS kq) fun _ _ z => back_cmp z)
end

section
variable {prog : Program} {w : World} {A A₀ : Around} {E : Value → Shared → Prop} {s : Shared} {K : PySem.W.Frag} {x C L f : Addr} {h0 : Heap} {m : Str → Option Value} {ox : Obj} {od : Option Obj} {b tb : Value}
theorem ifBound_ne {M : Model} {args : List Value} {Q : Option Value → Shared → Prop} (X : K.In s.heap) (J : PySem.W.InstAt s.heap x ox C od) (hs : PySem.W.findIn K (.ref C) "__ne__" = some (some (.builtin "object.__ne__")))
    (h : wpAny M A (call (.builtin "object.__ne__") (.ref x :: args)) (fun v => Q (some v)) E s) : wpAny M A (callSpecialIfBound? (.ref x) "__ne__" args) Q E s := by
  simp only [callSpecialIfBound?, bindSpecialIfBound?]
  refine wpAny_holding (wpAny_bind (wpAny_bind (wpAny_bind (J.type.here ((PySem.W.looks_findIn X hs).here ?_)))))
  simp only [PySem.F.cmp_object.ne.bind]
  refine wpAny_bind (wpAny_askSetting (wpAny_ite ?_))
  have fin : wpAny M A (call (.builtin "object.__ne__") ([.ref x] ++ args) >>= fun v => pure (some v)) Q E s := wpAny_bind (wpAny_mono h (fun v s' h' => wpAny_pure h') fun _ _ h' => h')
  split
  · exact wpAny_bind (wpAny_pure (wpAny_pure fin))
  · exact wpAny_tryCatch (wpAny_bind (wpAny_pure (wpAny_pure fin)))
theorem objNe_K (hu : A.units < cLine) (X : K.In s.heap) (J : PySem.W.InstAt s.heap x ox C od) (hs : PySem.W.findIn K (.ref C) "__eq__" = some (some (.ref f))) (hf : PySem.W.isFn K (.ref f) = true) {Q : Fin → Shared → Prop}
    (h : wpAny (model prog w) A (call (.ref f) [.ref x, b]) (fun v s' => ∃ k, v = .bool k ∧ Q (.done (.ret (.bool (!k)))) s') E s) : wpAny (model prog w) A (Builtin.«object.__ne__» ⟨[.ref x, b], []⟩) Q E s := by
  unfold Builtin.«object.__ne__»
  refine wpAny_bind (wpAny_pure ?_)
  dsimp only
  refine wpAny_bind (wpAny_cRoomFor hu ?_)
  refine wpAny_bind (PySem.W.ifBound_K X J hs hf (wpAny_mono h (fun v s' hv => ?_) fun _ _ e => e))
  obtain ⟨k, rfl, q⟩ := hv
  exact wpAny_bind (wpAny_truthy_bool (wpAny_pure q))
theorem tryNe_K (hu : A.units + 1 < cLine) (X : K.In s.heap) (J : PySem.W.InstAt s.heap x ox C od) (hn : PySem.W.findIn K (.ref C) "__ne__" = some (some (.builtin "object.__ne__"))) (hm : PySem.W.mroIn K C (.type "object") = some true) (hs : PySem.W.findIn K (.ref C) "__eq__" = some (some (.ref f))) (hf : PySem.W.isFn K (.ref f) = true) {Q : Option Value → Shared → Prop}
    (h : wpAny (model prog w) A.in1 (call (.ref f) [.ref x, b]) (fun v s' => ∃ k, v = .bool k ∧ Q (some (.bool (!k))) s') E s) : wpAny (model prog w) A (tryCompare (.ref x) "__ne__" b) Q E s := by
  unfold tryCompare
  have isi : PySem.W.Looks (model prog w) s.heap (isInstance (.ref x) (.type "object")) true := by
    unfold isInstance
    refine J.type.andThen ?_
    exact PySem.W.looks_mroIn X hm
  refine wpAny_bind (ifBound_ne X J hn (wpAny_call (codeAny_call_builtin PySem.F.cmp_object.ne.plain PySem.F.cmpEntry_ne (PySem.W.check_slot PySem.F.cmpKind_ne PySem.F.cmpSplit_ne isi (PySem.F.cmpArgs_ne _ _) (objNe_K (A := A.in1) (by show A.units + 1 < cLine; exact hu) X J hs hf (wpAny_mono h (fun v s' hv => ?_) fun _ _ e => e))))))
  obtain ⟨k, rfl, q⟩ := hv
  exact ⟨k, rfl, wpAny_pure q⟩
theorem cmpNe_K {Q : Value → Shared → Prop} (hu : A.units + 1 < cLine) (X : K.In s.heap) (J : PySem.W.InstAt s.heap x ox C od) (hb : PySem.W.Looks (model prog w) s.heap (typeOf b) tb) (hn : PySem.W.notFirst K C tb = true)
    (hne : PySem.W.findIn K (.ref C) "__ne__" = some (some (.builtin "object.__ne__"))) (hm : PySem.W.mroIn K C (.type "object") = some true) (hs : PySem.W.findIn K (.ref C) "__eq__" = some (some (.ref f))) (hf : PySem.W.isFn K (.ref f) = true)
    (h : wpAny (model prog w) A.in1 (call (.ref f) [.ref x, b]) (fun v s' => ∃ k, v = .bool k ∧ Q (.bool (!k)) s') E s) : wpAny (model prog w) A (richCompare .NotEq (.ref x) b) Q E s := by
  have one : wpAny (model prog w) A (tryCompare (.ref x) "__ne__" b) (fun r s' => ∃ v, r = some v ∧ Q v s') E s :=
    tryNe_K hu X J hne hm hs hf (wpAny_mono h (fun v s' hv => by obtain ⟨k, rfl, q⟩ := hv; exact ⟨k, rfl, _, rfl, q⟩) fun _ _ e => e)
  unfold richCompare
  simp only [oneThing_ref]
  refine wpAny_holding (wpAny_bind (wpAny_cRoomFor (Nat.lt_of_succ_lt hu) ?_))
  refine wpAny_bind (J.type.here (wpAny_bind (hb.here ?_)))
  split
  · rename_i q
    have e : PySem.W.subIn K tb (.ref C) = some false := by
      rcases Bool.or_eq_true_iff.mp hn with e | e
      · rw [beq_iff_eq.mp e] at q; simp at q
      · exact beq_iff_eq.mp e
    refine wpAny_bind ((PySem.W.looks_subIn X e).here ?_)
    simp only [Bool.false_eq_true, if_false]
    refine wpAny_bind (wpAny_mono one (fun r s' z => ?_) fun _ _ e => e)
    obtain ⟨v, rfl, hq⟩ := z
    exact wpAny_pure hq
  · refine wpAny_bind (wpAny_pure ?_)
    simp only [Bool.false_eq_true, if_false]
    refine wpAny_bind (wpAny_mono one (fun r s' z => ?_) fun _ _ e => e)
    obtain ⟨v, rfl, hq⟩ := z
    exact wpAny_pure hq
end
section
variable {X : Cx} {k j : Nat} {f C : Addr} {fd : FuncData} {ps : List Str} {S : List D → Res → Prop} {fs : List (Str × D)} {d : D}
/-- x != d, by the class's own __eq__ -/
theorem bd_neO {t : Value} {b : Bool} (hne : PySem.W.findIn X.K (.ref C) "__ne__" = some (some (.builtin "object.__ne__"))) (hm : PySem.W.mroIn X.K C (.type "object") = some true) (at_ : PySem.W.findIn X.K (.ref C) "__eq__" = some (some (.ref f))) (fn : PySem.W.isFn X.K (.ref f) = true) (ht : TyD X.K d t) (nf : PySem.W.notFirst X.K C t = true)
    (F : FnOk X.prog X.w X.K X.mg X.base CX0 k f fd ps (spD X.K S)) (hb : Binds X.K fd ps []) (hr : Room j X.A) (hS : S [.obj C fs, d] (.val (.bl b))) (hk : k + 1 ≤ j := by decide) : BinD X (compareOp .NotEq) (.obj C fs) d (.val (.bl (!b))) := by
  intro pins s σ H x y v u Q I r1 r2 ⟨Hs, e, d1, d2, kq⟩
  obtain ⟨a, ox, od, rfl, rfl, J⟩ := inst_of I e d1 r1
  have hrk : Room (k + 1) X.A := hr.mono hk
  refine cmpNe_K (hu_of hr) I.kIn J (looks_ty I e ht d2 r2) nf hne hm at_ fn (thn (runAt (Q := fun w H' => w = .bl b ∧ Q (.bl (!b)) H') F hrk.in1 hb I I.env0.in1 (.cons r1 (.cons r2 .nil)) e (.cons d1 (.cons d2 .nil)) hS (fun w Hs' H' g z => ?_)) fun u s' z => ?_)
  · cases z
    exact ⟨rfl, kq _ Hs' H' g (.bl _)⟩
  · obtain ⟨v', H', I', rv, rfl, q⟩ := z
    cases rv
    exact ⟨b, rfl, .bl (!b), H', I', rfl, q⟩
end
end Dn
end

section
set_option Elab.async false
set_option linter.all false
set_option maxRecDepth 100000
set_option maxHeartbeats 2000000
/-! DKw: calls with keywords alone, classmethods, repr of lists of data, the law's own call. -/
namespace Dn
open PySem PySem.Spec L2
/-! ### keywords: values put in the parameters' order -/
def pk {α : Type} (ix : List Nat) (l : List α) : List α := ix.filterMap fun i => l[i]?
theorem vals_get : ∀ {vs : List V} {us : List Value} (i : Nat), Vals vs us → (vs[i]? = none ∧ us[i]? = none) ∨ ∃ v u, vs[i]? = some v ∧ us[i]? = some u ∧ RelV v u
  | _, _, _, .nil => .inl ⟨by simp, by simp⟩
  | _, _, 0, .cons a _ => .inr ⟨_, _, rfl, rfl, a⟩
  | _, _, i + 1, .cons _ b => by
    rcases vals_get i b with ⟨h1, h2⟩ | ⟨v, u, h1, h2, h3⟩
    · exact .inl ⟨by simpa using h1, by simpa using h2⟩
    · exact .inr ⟨v, u, by simpa using h1, by simpa using h2, h3⟩
theorem vals_pk : ∀ (ix : List Nat) {vs : List V} {us : List Value}, Vals vs us → Vals (pk ix vs) (pk ix us)
  | [], _, _, _ => .nil
  | i :: ix, vs, us, h => by
    unfold pk
    rcases vals_get i h with ⟨h1, h2⟩ | ⟨v, u, h1, h2, h3⟩
    · rw [List.filterMap_cons_none h1, List.filterMap_cons_none h2]
      exact vals_pk ix h
    · rw [List.filterMap_cons_some h1, List.filterMap_cons_some h2]
      exact .cons h3 (vals_pk ix h)
theorem dens_pk {K : PySem.W.Frag} {H : Hp} : ∀ (ix : List Nat) {vs : List V} {ds : List D}, Dens K H vs ds → Dens K H (pk ix vs) (pk ix ds)
  | [], _, _, _ => .nil
  | i :: ix, vs, ds, h => by
    unfold pk
    cases e : ds[i]? with
    | none =>
      have e2 : vs[i]? = none := by
        rw [List.getElem?_eq_none_iff] at e ⊢
        rw [h.length]; exact e
      rw [List.filterMap_cons_none e2, List.filterMap_cons_none e]
      exact dens_pk ix h
    | some d =>
      obtain ⟨v, h1, h2⟩ := h.get e
      rw [List.filterMap_cons_some h1, List.filterMap_cons_some e]
      exact .cons h2 (dens_pk ix h)
/-- n values first, then the keywords' values (names ks); ix tells from where each parameter has its value -/
def KBp (K : PySem.W.Frag) (fd : FuncData) (ps : List Str) (n : Nat) (ks : List Str) (ix : List Nat) : Prop :=
  ∀ (s : Shared) (us ws : List Value), K.In s.heap → us.length = n → ws.length = ks.length → BindsTo s fd ⟨us, ks.zip ws⟩ (ps.zip (pk ix (us ++ ws)))
theorem KBp.kbn {K : PySem.W.Frag} {fd : FuncData} {ps ks : List Str} {n : Nat} {ix : List Nat} (h : KBp K fd ps n ks ix) : KBn K fd ps n ks (fun us ws => pk ix (us ++ ws)) (fun vs zs => pk ix (vs ++ zs)) :=
  ⟨h, fun r1 r2 => vals_pk ix (r1.append r2)⟩
section
variable {K : PySem.W.Frag} {x qual : Str} {st : Stmt} {f : Addr} {fd : FuncData} {ps ks : List Str} {n : Nat} {ix : List Nat} {dvs : List V} {kws : List (Str × V)}
theorem kbp_of (F : Fun K x qual st f fd) (h : ∀ (kV doc pm : Value) (an : Option Addr) (cdv ct : Value) (us ws : List Value), us.length = n → ws.length = ks.length →
    bindArgs (PySem.W.fnOf x qual (defArgs st) (defBody st) (defScope st) .none kV doc pm an cdv ct) ⟨us, ks.zip ws⟩ = pure (ps.zip (pk ix (us ++ ws)))) : KBp K fd ps n ks ix := by
  obtain ⟨oc, od, kV, doc, pm, an, cdv, ct, osl, rfl, lk, hcd⟩ := F.ex
  exact fun s us ws _ l1 l2 => .of_eq (h kV doc pm an cdv ct us ws l1 l2)
theorem kbp_ofD (F : FunD K x qual (defArgs st) (defBody st) (defScope st) dvs kws f fd) (hd : dvs ≠ []) (h : ∀ (T : Addr) (kV doc pm : Value) (an : Option Addr) (cdv ct : Value) (us ws its : List Value), us.length = n → ws.length = ks.length → its.length = dvs.length →
    ∃ k, bindArgs (PySem.W.fnOf x qual (defArgs st) (defBody st) (defScope st) (.ref T) kV doc pm an cdv ct) ⟨us, ks.zip ws⟩ = seqItems? (.ref T) >>= k ∧ k (some its.toArray) = pure (ps.zip (pk ix (us ++ ws)))) : KBp K fd ps n ks ix := by
  obtain ⟨oc, od, dV, kV, doc, pm, an, cdv, ct, osl, rfl, lk, hcd, hD, hK⟩ := F.ex
  rcases hD with ⟨e, _⟩ | ⟨_, T, o, its, m, rfl, lT, oT, rT⟩
  · exact absurd e hd
  · intro s us ws X l1 l2
    obtain ⟨k, e1, e2⟩ := h T kV doc pm an cdv ct us ws its l1 l2 rT.length.symm
    refine BindsTo.of_looks fun M => ?_
    rw [e1]
    exact looks_items X lT oT (.of_pure e2)
end
structure MetK (P : Program) (w : World) (K : PySem.W.Frag) (mg : Str → Option Value) (base : Heap) (k : Nat) (C : Addr) (m : Str) (sp : Sp) (ks : List Str) (ix : List Nat) : Prop where
  ex : ∃ (f : Addr) (fd : FuncData) (ps : List Str), Cls K C ∧ Meth K C m f ∧ FnOk P w K mg base CX0 k f fd ps sp ∧ KBp K fd ps 1 ks ix
structure MakK (P : Program) (w : World) (K : PySem.W.Frag) (mg : Str → Option Value) (base : Heap) (k : Nat) (x : Str) (C : Addr) (sp : Sp) (ks : List Str) (ix : List Nat) : Prop where
  ex : ∃ (f : Addr) (fd : FuncData) (ps : List Str), Mk K C f ∧ FnOk P w K mg base CX0 k f fd ps sp ∧ mg x = some (.ref C) ∧ KBp K fd ps 1 ks ix
structure CalK (P : Program) (w : World) (K : PySem.W.Frag) (mg : Str → Option Value) (base : Heap) (k : Nat) (x : Str) (sp : Sp) (ks : List Str) (ix : List Nat) : Prop where
  ex : ∃ (f : Addr) (fd : FuncData) (ps : List Str), FnOk P w K mg base CX0 k f fd ps sp ∧ mg x = some (.ref f) ∧ PySem.W.keepIn K (.ref f) = true ∧ KBp K fd ps 0 ks ix
/-- a classmethod of the class at C: called with n values, then keywords ks -/
structure Clm (P : Program) (w : World) (K : PySem.W.Frag) (mg : Str → Option Value) (base : Heap) (k : Nat) (C : Addr) (m : Str) (sp : Sp) (n : Nat) (ks : List Str) (ix : List Nat) : Prop where
  ex : ∃ (mc : Value) (p f : Addr) (fd : FuncData) (ps : List Str), ClX.CRead K C mc ∧ ClX.CMet K C mc m p f ∧ FnOk P w K mg base CX0 k f fd ps sp ∧ KBp K fd ps (n + 1) ks ix
def PKD (X : Cx) (kws : List Keyword) (ρ : Rho) (ds : List D) (ρ' : Rho) : Prop := PK X kws (rdA X.K ρ ds ρ')
section
variable {X : Cx} {ρ ρ1 ρ2 : Rho} {pos p apos kpos : Pos} {e o : Expr} {es : List Expr} {kws : List Keyword} {r : Res} {d : D} {as ds : List D} {x m : Str} {nm : Option Str} {C : Addr} {k j : Nat} {S : List D → Res → Prop} {T : D → List D → Res → D → Prop} {ks : List Str} {ix : List Nat} {t t' : TA}
theorem pkk_imp (h : PK X kws t) (i : ∀ σ H Q, t' σ H Q → t σ H Q) : PK X kws t' := ⟨fun pos pins s σ H Q I q => h.run pos pins s σ H Q I (i σ H Q q)⟩
theorem pkd_nil : PKD X [] ρ [] ρ := pkk_imp pk_nil fun σ H Q ⟨io, Hf, Hs, E, k⟩ => k [] Hs H E ExF.refl .nil
theorem pkd_cons (h1 : PD X e ρ (.val d) ρ1) (h2 : PKD X kws ρ1 ds ρ2) : PKD X (⟨nm, e, kpos⟩ :: kws) ρ (d :: ds) ρ2 :=
  pkk_imp (pk_cons h1 h2) fun σ H Q ⟨io, Hf, Hs, E, kk⟩ => ⟨io, Hf, Hs, E, fun v Hs1 H1 E1 f1 q1 => ⟨io, Hf, Hs1, E1, fun vs Hs2 H2 E2 f2 q2 => kk _ Hs2 H2 E2 (f1.trans f2) (.cons (Den.mono f2.ex q1) q2)⟩⟩
end
/-! ### the rules with readings -/
def tMethK (C : Addr) (m : Str) (n : Nat) (sp : Sp) (ix : List Nat) (ta : TE) (tk : TA) : TE := fun σ H Q => ta σ H fun x H1 => ∃ a dx fs, x = .ref a ∧ H1 a = some (.ins C dx fs) ∧ fs.lookup m = none ∧ tk σ H1 fun zs H2 => zs.length = n ∧ sp (pk ix (.ref a :: zs)) H2 Q E0
def tCallK0 (n : Nat) (sp : Sp) (ix : List Nat) (tk : TA) : TE := fun σ H Q => tk σ H fun zs H2 => zs.length = n ∧ sp (pk ix zs) H2 Q E0
section
variable {X : Cx} {pos p apos : Pos} {e o : Expr} {es : List Expr} {kws : List Keyword} {x m : Str} {C : Addr} {k j n : Nat} {sp : Sp} {ks : List Str} {ix : List Nat} {ta : TE} {t tk : TA}
theorem pe_methK {pl : Sem Bool} (c : MetK X.prog X.w X.K X.mg X.base k C m sp ks ix) (hr : Room j X.A) (hk : k ≤ j) (ho : PE X o ta) (hkw : PK X kws tk) (hall : (backToKw pos (keywordEach kws X.env)).all (·.1.isSome) = true := by rfl) (hks : (backToKw pos (keywordEach kws X.env)).filterMap (·.1) = ks := by rfl)
    (hpl : ((backTo pos (starEach [] X.env)).any (·.1) || (backToKw pos (keywordEach kws X.env)).any (·.1.isNone)) = false := by rfl)
    (ht : eval (.Call (.Attribute o m apos) [] kws pos) X.env = (do
      let ov ← eval o X.env
      standAt apos.atName
      let (f, first) ← holding [ov] (getMethod ov m pl)
      callWith pos f first (backTo pos (starEach [] X.env)) (backToKw pos (keywordEach kws X.env))) := by rfl) : PE X (.Call (.Attribute o m apos) [] kws pos) (tMethK C m ks.length sp ix ta tk) := by
  obtain ⟨f, fd, ps, cl, hm, F, hb⟩ := c.ex
  refine ⟨fun pins s σ H Q I h => ?_⟩
  refine PySem.W.methodCall_KW (pl := pl) (thn (ho.run pins s σ H _ I h) fun u s1 ⟨v, H1, I1, rx, a, dx, fs, ex, ea, l, q⟩ => ?_) ht
  subst ex
  obtain rfl : u = Value.ref a := rx
  refine getmeth_ok I1 ea cl hm l ?_
  refine PySem.W.callWith_KW0 (h₀ := X.base) (first := [.ref a]) I1.ok.mod.kin hm.kp hall ?_ hpl
  refine thn (hkw.run pos pins s1 σ H1 _ I1 q) fun ws s2 ⟨zs, H2, I2, rz, l2, q2⟩ => ⟨I2.kIn, ?_⟩
  rw [hks]
  exact run_fnN (us := [.ref a]) (vs := [.ref a]) F (hr.mono hk) hb.kbn pass0 I2 (.cons rfl .nil) rz rfl l2 q2
theorem pe_callK0 (c : CalK X.prog X.w X.K X.mg X.base k x sp ks ix) (hr : Room j X.A) (hk : k ≤ j) (hg : Gl X x) (hkw : PK X kws tk) (hall : (backToKw pos (keywordEach kws X.env)).all (·.1.isSome) = true := by rfl) (hks : (backToKw pos (keywordEach kws X.env)).filterMap (·.1) = ks := by rfl)
    (hpl : ((backTo pos (starEach [] X.env)).any (·.1) || (backToKw pos (keywordEach kws X.env)).any (·.1.isNone)) = false := by rfl) (hdb : (x == ("__debug__" : Str)) = false := by decide) : PE X (.Call (.Name x p) [] kws pos) (tCallK0 ks.length sp ix tk) := by
  obtain ⟨f, fd, ps, F, hm, kp, hb⟩ := c.ex
  refine ⟨fun pins s σ H Q I h => wpAny_Call_Name_kw (ld_glob I hg hm ?_ hdb)⟩
  refine PySem.W.callWith_KW0 (h₀ := X.base) I.ok.mod.kin kp hall ?_ hpl
  refine thn (hkw.run pos pins s σ H _ I h) fun ws s2 ⟨zs, H2, I2, rz, l2, q2⟩ => ⟨I2.kIn, ?_⟩
  rw [hks]
  exact run_fnN (us := []) (vs := []) F (hr.mono hk) hb.kbn pass0 I2 .nil rz rfl l2 q2
def tClm (C : Addr) (n : Nat) (sp : Sp) (ix : List Nat) (ta : TE) (t : TA) : TE := fun σ H Q => ta σ H fun x H1 => x = .ref C ∧ t σ H1 fun vs H2 => vs.length = n ∧ sp (pk ix (.ref C :: vs)) H2 Q E0
theorem run_clm {pins : List (Addr × Obj)} {σ : L2.St} {H : Hp} {s : Shared} {q g : Addr} {fd : FuncData} {ps : List Str} {Q : VK} {us ws : List Value} {vs zs : List V} (F : FnOk X.prog X.w X.K X.mg X.base CX0 k g fd ps sp) (hr : Room k X.A) (hb : KBp X.K fd ps (n + 1) ks ix)
    (I : Inv X ((q, PySem.W.methodObj (.ref g) (.ref C)) :: pins) σ H s) (r : Vals vs us) (rz : Vals zs ws) (l1 : vs.length = n) (l2 : zs.length = ks.length) (h : sp (pk ix ((.ref C :: vs) ++ zs)) H Q E0) : wpAny (model X.prog X.w) X.A (call (.ref q) us (ks.zip ws)) (EP X pins σ Q) X.xe s := by
  have z : wpAny (model X.prog X.w) X.A (call (.ref q) us (ks.zip ws)) (EP X ((q, PySem.W.methodObj (.ref g) (.ref C)) :: pins) σ Q) X.xe s := by
    have r0 : Vals (V.ref C :: vs) (Value.ref C :: us) := .cons rfl r
    have r2 := hb.kbn.rel r0 rz
    refine wpAny_call (PySem.W.method_call (ClX.pin_at I) (codeAny_mono (F.run X.A X.stack s H ⟨.ref C :: us, ks.zip ws⟩ _ _ Q E0 hr I.env0 (hb s (.ref C :: us) ws I.kIn (by rw [List.length_cons, ← r.length, l1]) (rz.length.symm.trans l2)) r2 h) fun res s' hq => ?_))
    cases res with
    | error e => exact False.elim hq
    | ok fl => cases fl <;> first | exact I.after hq | exact False.elim hq
  exact thn z fun _ _ y => ClX.unpinE y
theorem pe_clm {pl : Sem Bool} (c : Clm X.prog X.w X.K X.mg X.base k C m sp n [] ix) (hr : Room j X.A) (hk : k ≤ j) (he : PE X o ta) (ha : PA X (e :: es) t)
    (hst : starEach (e :: es) X.env = (false, eval e X.env) :: starEach es X.env := by rfl) (hpl : (backTo pos (starEach es X.env)).any (·.1) = false := by rfl)
    (ht : eval (.Call (.Attribute o m apos) (e :: es) [] pos) X.env = (do
      let ov ← eval o X.env
      standAt apos.atName
      let (f, first) ← holding [ov] (getMethod ov m pl)
      callWith pos f first (backTo pos (starEach (e :: es) X.env)) (backToKw pos (keywordEach [] X.env))) := by rfl) : PE X (.Call (.Attribute o m apos) (e :: es) [] pos) (tClm C n sp ix ta t) := by
  obtain ⟨mc, q, f, fd, ps, r, cm, F, hb⟩ := c.ex
  refine ⟨fun pins s σ H Q I h => ?_⟩
  refine PySem.W.methodCall_KW (pl := pl) (thn (he.run pins s σ H _ I h) fun u s1 ⟨v, H1, I1, rx, ex, q⟩ => ?_) ht
  subst ex
  obtain rfl : u = Value.ref C := rx
  refine ClX.getmethcm_ok I1 r cm fun s2 I2 => ?_
  refine ClX.callwith_cm I2 (ClX.base_none I1 (Nat.le_refl _)) cm.fi (thn (ha.run pos _ s2 σ H1 _ I2 q) fun us s3 ⟨vs, H2, I3, rv, l2, q2⟩ => ⟨⟨ClX.pin_at I3, I3.kIn⟩, ?_⟩) hst hpl
  exact run_clm (ws := []) (zs := []) F (hr.mono hk) hb I3 rv .nil l2 rfl (by rw [List.append_nil]; exact q2)
theorem pe_clmK {pl : Sem Bool} (c : Clm X.prog X.w X.K X.mg X.base k C m sp 0 ks ix) (hr : Room j X.A) (hk : k ≤ j) (he : PE X o ta) (hkw : PK X kws tk)
    (hall : (backToKw pos (keywordEach kws X.env)).all (·.1.isSome) = true := by rfl) (hks : (backToKw pos (keywordEach kws X.env)).filterMap (·.1) = ks := by rfl)
    (hpl : ((backTo pos (starEach [] X.env)).any (·.1) || (backToKw pos (keywordEach kws X.env)).any (·.1.isNone)) = false := by rfl)
    (ht : eval (.Call (.Attribute o m apos) [] kws pos) X.env = (do
      let ov ← eval o X.env
      standAt apos.atName
      let (f, first) ← holding [ov] (getMethod ov m pl)
      callWith pos f first (backTo pos (starEach [] X.env)) (backToKw pos (keywordEach kws X.env))) := by rfl) : PE X (.Call (.Attribute o m apos) [] kws pos) (tClm C ks.length sp ix ta tk) := by
  obtain ⟨mc, q, f, fd, ps, r, cm, F, hb⟩ := c.ex
  refine ⟨fun pins s σ H Q I h => ?_⟩
  refine PySem.W.methodCall_KW (pl := pl) (thn (he.run pins s σ H _ I h) fun u s1 ⟨v, H1, I1, rx, ex, q⟩ => ?_) ht
  subst ex
  obtain rfl : u = Value.ref C := rx
  refine ClX.getmethcm_ok I1 r cm fun s2 I2 => ?_
  refine PySem.W.callWith_of (P := PySem.W.MethP X.K _ f (.ref C)) (first := []) hpl (PySem.W.keeps_M cm.fi) (PyProof.Rows.evalArgs_kw2_nil hall ?_)
  refine thn (hkw.run pos _ s2 σ H1 _ I2 q) fun ws s3 ⟨zs, H2, I3, rz, l2, q2⟩ => ⟨⟨ClX.pin_at I3, I3.kIn⟩, ?_⟩
  rw [hks]
  exact run_clm (us := []) (vs := []) F (hr.mono hk) hb I3 .nil rz rfl l2 q2
end

/-! ### over data -/
section
variable {X : Cx} {ρ ρ1 ρ2 : Rho} {pos p apos : Pos} {e o : Expr} {es : List Expr} {kws : List Keyword} {r : Res} {as : List D} {x m : Str} {C : Addr} {k j n : Nat} {S : List D → Res → Prop} {T : D → List D → Res → D → Prop} {ks : List Str} {ix : List Nat}
/-- o.m(k = e, ..) -/
theorem pd_methK {fs : List (Str × D)} {pl : Sem Bool} (c : MetK X.prog X.w X.K X.mg X.base k C m (spD X.K S) ks ix) (hr : Room j X.A) (ho : PD X o ρ (.val (.obj C fs)) ρ1) (hn : fs.lookup m = none) (ha : PKD X kws ρ1 as ρ2) (hS : S (pk ix (.obj C fs :: as)) r) (hlen : as.length = ks.length := by rfl)
    (hk : k ≤ j := by decide) (hall : (backToKw pos (keywordEach kws X.env)).all (·.1.isSome) = true := by rfl) (hks : (backToKw pos (keywordEach kws X.env)).filterMap (·.1) = ks := by rfl)
    (hpl : ((backTo pos (starEach [] X.env)).any (·.1) || (backToKw pos (keywordEach kws X.env)).any (·.1.isNone)) = false := by rfl)
    (ht : eval (.Call (.Attribute o m apos) [] kws pos) X.env = (do
      let ov ← eval o X.env
      standAt apos.atName
      let (f, first) ← holding [ov] (getMethod ov m pl)
      callWith pos f first (backTo pos (starEach [] X.env)) (backToKw pos (keywordEach kws X.env))) := by rfl) : PD X (.Call (.Attribute o m apos) [] kws pos) ρ r ρ2 :=
  pe_imp (pe_methK (pl := pl) c hr hk ho ha hall hks hpl ht) fun σ H Q ⟨io, Hf, Hs, E, kk⟩ => ⟨io, Hf, Hs, E, fun v Hs1 H1 E1 f1 q1 => by
    have q0 := q1
    cases q1 with
    | @obj a _ dx fv _ h1 h2 =>
      exact ⟨a, dx, fv, rfl, E1.st _ _ h1, h2.nolook hn, io, Hf, Hs1, E1, fun vs Hs2 H2 E2 f2 q2 => ⟨q2.length.trans hlen, _, r, Hs2, hS, E2.st, dens_pk ix (.cons (Den.mono f2.ex q0) q2), fun w Hs3 H3 g q => by
        obtain ⟨E3, f3⟩ := E2.gr g
        exact kk w Hs3 H3 E3 ((f1.trans f2).trans f3) (E2.ret q)⟩⟩⟩
/-- f(k = e, ..) -/
theorem pd_callK (c : CalK X.prog X.w X.K X.mg X.base k x (spD X.K S) ks ix) (hr : Room j X.A) (ha : PKD X kws ρ as ρ1) (hS : S (pk ix as) r) (hlen : as.length = ks.length := by rfl) (hk : k ≤ j := by decide) (hg : Gl X x := by rfl)
    (hall : (backToKw pos (keywordEach kws X.env)).all (·.1.isSome) = true := by rfl) (hks : (backToKw pos (keywordEach kws X.env)).filterMap (·.1) = ks := by rfl)
    (hpl : ((backTo pos (starEach [] X.env)).any (·.1) || (backToKw pos (keywordEach kws X.env)).any (·.1.isNone)) = false := by rfl) (hdb : (x == ("__debug__" : Str)) = false := by decide) : PD X (.Call (.Name x p) [] kws pos) ρ r ρ1 :=
  pe_imp (pe_callK0 c hr hk hg ha hall hks hpl hdb) fun σ H Q ⟨io, Hf, Hs, E, kk⟩ => ⟨io, Hf, Hs, E, fun vs Hs1 H1 E1 f1 q1 => ⟨q1.length.trans hlen, _, r, Hs1, hS, E1.st, dens_pk ix q1, fun w Hs2 H2 g q => by
    obtain ⟨E2, f2⟩ := E1.gr g
    exact kk w Hs2 H2 E2 (f1.trans f2) (E1.ret q)⟩⟩
/-- C.m(e, ..), a classmethod; C.m(k = e, ..) -/
theorem pd_clm {pl : Sem Bool} (c : Clm X.prog X.w X.K X.mg X.base k C m (spD X.K S) n [] ix) (hr : Room j X.A) (ho : PD X o ρ (.val (.adr C)) ρ1) (ha : PAD X (e :: es) ρ1 as ρ2) (hS : S (pk ix (.adr C :: as)) r) (hlen : as.length = n := by rfl) (hk : k ≤ j := by decide)
    (hst : starEach (e :: es) X.env = (false, eval e X.env) :: starEach es X.env := by rfl) (hpl : (backTo pos (starEach es X.env)).any (·.1) = false := by rfl)
    (ht : eval (.Call (.Attribute o m apos) (e :: es) [] pos) X.env = (do
      let ov ← eval o X.env
      standAt apos.atName
      let (f, first) ← holding [ov] (getMethod ov m pl)
      callWith pos f first (backTo pos (starEach (e :: es) X.env)) (backToKw pos (keywordEach [] X.env))) := by rfl) : PD X (.Call (.Attribute o m apos) (e :: es) [] pos) ρ r ρ2 :=
  pe_imp (pe_clm (pl := pl) c hr hk ho ha hst hpl ht) fun σ H Q ⟨io, Hf, Hs, E, kk⟩ => ⟨io, Hf, Hs, E, fun v Hs1 H1 E1 f1 q1 => by
    cases q1
    exact ⟨rfl, io, Hf, Hs1, E1, fun vs Hs2 H2 E2 f2 q2 => ⟨q2.length.trans hlen, _, r, Hs2, hS, E2.st, dens_pk ix (.cons (.adr C) q2), fun w Hs3 H3 g q => by
      obtain ⟨E3, f3⟩ := E2.gr g
      exact kk w Hs3 H3 E3 ((f1.trans f2).trans f3) (E2.ret q)⟩⟩⟩
theorem pd_clmK {pl : Sem Bool} (c : Clm X.prog X.w X.K X.mg X.base k C m (spD X.K S) 0 ks ix) (hr : Room j X.A) (ho : PD X o ρ (.val (.adr C)) ρ1) (ha : PKD X kws ρ1 as ρ2) (hS : S (pk ix (.adr C :: as)) r) (hlen : as.length = ks.length := by rfl) (hk : k ≤ j := by decide)
    (hall : (backToKw pos (keywordEach kws X.env)).all (·.1.isSome) = true := by rfl) (hks : (backToKw pos (keywordEach kws X.env)).filterMap (·.1) = ks := by rfl)
    (hpl : ((backTo pos (starEach [] X.env)).any (·.1) || (backToKw pos (keywordEach kws X.env)).any (·.1.isNone)) = false := by rfl)
    (ht : eval (.Call (.Attribute o m apos) [] kws pos) X.env = (do
      let ov ← eval o X.env
      standAt apos.atName
      let (f, first) ← holding [ov] (getMethod ov m pl)
      callWith pos f first (backTo pos (starEach [] X.env)) (backToKw pos (keywordEach kws X.env))) := by rfl) : PD X (.Call (.Attribute o m apos) [] kws pos) ρ r ρ2 :=
  pe_imp (pe_clmK (pl := pl) c hr hk ho ha hall hks hpl ht) fun σ H Q ⟨io, Hf, Hs, E, kk⟩ => ⟨io, Hf, Hs, E, fun v Hs1 H1 E1 f1 q1 => by
    cases q1
    exact ⟨rfl, io, Hf, Hs1, E1, fun vs Hs2 H2 E2 f2 q2 => ⟨q2.length.trans hlen, _, r, Hs2, hS, E2.st, dens_pk ix (.cons (.adr C) q2), fun w Hs3 H3 g q => by
      obtain ⟨E3, f3⟩ := E2.gr g
      exact kk w Hs3 H3 E3 ((f1.trans f2).trans f3) (E2.ret q)⟩⟩⟩
theorem pe_mkK (c : MakK X.prog X.w X.K X.mg X.base k x C (spIO X.K T) ks ix) (hr : Room j X.A) (hk : k + 1 ≤ j) (hg : Gl X x) {tk : TA} (hkw : PK X kws tk)
    (hall : (backToKw pos (keywordEach kws X.env)).all (·.1.isSome) = true := by rfl) (hks : (backToKw pos (keywordEach kws X.env)).filterMap (·.1) = ks := by rfl) (hdb : (x == ("__debug__" : Str)) = false := by decide)
    (hpl : ((backTo pos (starEach [] X.env)).any (·.1) || (backToKw pos (keywordEach kws X.env)).any (·.1.isNone)) = false := by rfl) :
    PE X (.Call (.Name x p) [] kws pos) (tMakeK C 0 ks.length (spIO X.K T) (fun vs zs => pk ix (vs ++ zs)) E0 tNil tk) := by
  obtain ⟨f, fd, ps, M, F, hm, hb⟩ := c.ex
  exact pe_makeK0 M F (hr.mono hk) hg hm hb.kbn pass0 hkw hall hks hdb hpl
/-- C(k = e, ..): the first parameter is the new instance (ix = 0 :: ..) -/
theorem pd_makeK {fs : List (Str × D)} {iy : List Nat} (c : MakK X.prog X.w X.K X.mg X.base k x C (spIO X.K T) ks (0 :: iy)) (hr : Room j X.A) (ha : PKD X kws ρ as ρ1) (hT : T (.obj C []) (pk (iy.map (· - 1)) as) (.val .non) (.obj C fs)) (hiy : ∀ i ∈ iy, 1 ≤ i := by decide) (hlen : as.length = ks.length := by rfl) (hk : k + 1 ≤ j := by decide) (hg : Gl X x := by rfl)
    (hall : (backToKw pos (keywordEach kws X.env)).all (·.1.isSome) = true := by rfl) (hks : (backToKw pos (keywordEach kws X.env)).filterMap (·.1) = ks := by rfl) (hdb : (x == ("__debug__" : Str)) = false := by decide)
    (hpl : ((backTo pos (starEach [] X.env)).any (·.1) || (backToKw pos (keywordEach kws X.env)).any (·.1.isNone)) = false := by rfl) : PD X (.Call (.Name x p) [] kws pos) ρ (.own (.obj C fs)) ρ1 :=
  pe_imp (pe_mkK c hr hk hg ha hall hks hdb hpl) fun σ H Q ⟨io, Hf, Hs, E, kk⟩ => ⟨io, Hf, Hs, E, fun vs Hs1 H1 E1 f1 q1 => ⟨rfl, q1.length.trans hlen, fun y dx ny ndx nxy => by
    have e1 : Ex H1 (upd (upd H1 dx (.own y)) y (.ins C dx [])) := fun b u z => by
      rw [upd_ne (ne_of_none z ny), upd_ne (ne_of_none z ndx)]
      exact z
    have shift : ∀ (l : List Nat) (ws : List V), (∀ i ∈ l, 1 ≤ i) → pk l (V.ref y :: ws) = pk (l.map (· - 1)) ws := fun l ws hl => by
      induction l with
      | nil => rfl
      | cons i l ih =>
        obtain ⟨m, rfl⟩ : ∃ m, i = m + 1 := ⟨i - 1, by have := hl i (List.mem_cons_self ..); omega⟩
        have ih' := ih fun i hi => hl i (List.mem_cons_of_mem _ hi)
        unfold pk at ih' ⊢
        rw [List.map_cons, List.filterMap_cons, List.filterMap_cons, ih']
        rfl
    refine ⟨y, pk (iy.map (· - 1)) vs, _, _, _, _, Hs1, ?_, hT, E1.st.trans e1, E1.st.none ny, ⟨dx, [], upd_same, .nil⟩, dens_pk _ q1, fun w Hs2 H2 g o q => ?_⟩
    · show pk (0 :: iy) (V.ref y :: vs) = _
      rw [← shift iy vs hiy]
      unfold pk
      rw [List.filterMap_cons]
      rfl
    cases q
    have g1 : Gr H1 H2 Hs1 Hs2 := ⟨fun b u z => g.ex b u (ne_of_none z ny) (e1 b u z), g.st, g.s, fun b u z n => g.nw b u (e1 b u z) n⟩
    obtain ⟨E2, f2⟩ := E1.gr g1
    exact ⟨rfl, kk _ Hs2 H2 E2 (f1.trans f2) (E1.ret (r := .own (.obj C fs)) ⟨y, rfl, ny, g.nw y _ upd_same (E1.st.none ny), o⟩)⟩⟩⟩
end

/-! ### repr of a list of data -/
mutual
theorem Pl.noDict : ∀ {d : D} {p : PyData}, Pl d p → p.hasDict = false
  | _, _, .non => rfl
  | _, _, .bl _ => rfl
  | _, _, .int _ => rfl
  | _, _, .str _ => rfl
  | _, _, .lst h => by simpa [PyData.hasDict] using Pls.noDict h
  | _, _, .tup h => by simpa [PyData.hasDict] using Pls.noDict h
theorem Pls.noDict : ∀ {ds : List D} {ps : List PyData}, Pls ds ps → PyData.hasDictAll ps = false
  | _, _, .nil => rfl
  | _, _, .cons a b => by
    unfold PyData.hasDictAll
    rw [Pl.noDict a, Pls.noDict b]
    rfl
end
section
variable {X : Cx} {j : Nat}
theorem repr_ofL {prog : Program} {w : World} {A : Around} {E : Value → Shared → Prop} {s : Shared} {Q : Value → Shared → Prop} {a : Addr} {ds : List PyData} {as : List Addr} (r : Reads s.heap (.ref a) (.list ds) as) (hne : ds ≠ []) (hs : PyData.showableAll ds = true) (hd : PyData.hasDictAll ds = false)
    (hsz : (listText (PyData.shownAll ds)).length ≤ sizeLine) (hg : A.guards = some []) (hu : A.in1.units + (PyData.depthAll ds + 1) < cLine)
    (hQ : ∀ h' u tk, (∀ b o, s.heap.get? b = some o → h'.get? b = some o) → Q (.str (listText (PyData.shownAll ds)) u) { s with heap := h', toks := tk }) : wpAny (model prog w) A (call (.builtin "repr") [.ref a]) Q E s := by
  cases r with
  | @list _ o vs n xs as' h1 h2 h3 h4 =>
    obtain ⟨bs, hb, hk⟩ := ReprAllK.of_readsAll (prog := prog) (w := w) h4 hs (fun hx => by rw [hd] at hx; cases hx) (fun t ht => Nat.le_trans (listText_mem_le ht) hsz)
    have r : Reads s.heap (.ref a) (.list ds) _ := .list h1 h2 h3 h4
    have hna : a ∉ bs := not_mem_of_deeper r (by simp only [PyData.depth]; omega) hb
    have hTy : s.TypeIs (.ref a) "list" := ⟨o, h1, h2⟩
    obtain ⟨l⟩ := vs
    cases l with
    | nil =>
      have h4' : ReadsAll s.heap [] ds _ := h4
      cases h4'
      exact absurd rfl hne
    | cons y l =>
      refine Calls.call_function_entry PySem.F.kind_repr PySem.F.plain_repr PySem.F.entry_repr (PySem.F.args_repr1 _) ?_
      unfold Builtin.«repr»
      refine wpAny_bind (m := oneArg "repr" _) (wpAny_pure ?_)
      refine wpAny_bind (wpAny_cRoomFor (by omega) ?_)
      refine wpAny_bind (wpAny_specialOf (name := Str.ofString "__repr__") hTy F.slot_list_repr.lookup ?_)
      refine wpAny_bind (m := callSpecialIfBound? (.ref a) (Str.ofString "__repr__")) (wpAny_callSpecialIfBound?_slot (name := Str.ofString "__repr__") hTy F.slot_list_repr
        (call_list_reprK (A := A.in1) h1 h2 h3 hna (by simpa using hk.length_eq) (fun i z e => hk.item i z (by simpa using e)) hg (fun b _ => Clear.nil b) hu (fun _ _ e => e) (fun h' u tk hk' => ?_) hsz))
      refine wpAny_bind (wpAny_isInstance (T := "str") (b := true) rfl isSubtype_str_str ?_)
      exact wpAny_pure ⟨_, rfl, hQ h' u tk hk'⟩
/-- repr([..]) of data -/
theorem cd_reprL {ds : List D} {qs : List PyData} (nog : X.A.guards = some []) (h : Pls ds qs) (hne : qs ≠ []) (hs : PyData.showableAll qs = true) (hsz : (listText (PyData.shownAll qs)).length ≤ sizeLine) (hr : Room j X.A) (hd : PyData.depthAll qs ≤ 60 := by first | decide | exact Nat.le_of_ble_eq_true rfl) : CallD X (.builtin "repr") [.lst ds] (.val (.str (listText (PyData.shownAll qs)))) := by
  intro pins s σ H xs us Q I r1 ⟨Hs, e, dn, kq⟩
  obtain ⟨v, rfl, d1⟩ := one dn
  obtain ⟨u, rfl, r2⟩ := vals1 r1
  obtain ⟨as, r⟩ := Dp.reads I _ _ _ (Pl.dp e (.lst h) d1) r2
  cases d1 with
  | lst z1 z2 =>
    cases r2
    have room := hr.units
    refine repr_ofL r hne hs h.noDict hsz nog (by show X.A.units + 1 + (PyData.depthAll qs + 1) < cLine; omega) fun h' u tk k => ?_
    exact ⟨.str _, H, I.kept k, ⟨_, rfl⟩, kq _ Hs H (Gr.refl e) (.str _)⟩
end
end Dn
end

section
set_option Elab.async false
set_option linter.all false
set_option maxRecDepth 100000
set_option maxHeartbeats 2000000
/-! DEnd: the law's def is called by nobody: no guard stands around it. -/
namespace Dn
open PySem PySem.Spec L2
open PyProof.Rows (IntsAre AllBare)
section
variable {P : Program} {w : World} {K : PySem.W.Frag} {mg mb : Str → Option Value} {k n : Nat} {fa a : Addr} {fd : FuncData} {x : Str} {sp : Sp} {s1 : Shared} {vs : List Value} {ns : List Int}
abbrev scrO (vs : List Value) : Obj := { cls := .type "list", data := .seq vs.toArray }
/-- the script, if no object of the module is it -/
noncomputable def scr (K : PySem.W.Frag) (a : Addr) (vs : List Value) (ns : List Int) : Hp := fun b => open Classical in if b = a ∧ K.lookup a = none then some (.frz (scrO vs) (.lst (ns.map V.int))) else none
theorem scr_some {b : Addr} {u : HO} (h : scr K a vs ns b = some u) : b = a ∧ K.lookup a = none ∧ u = .frz (scrO vs) (.lst (ns.map V.int)) := by
  unfold scr at h
  split at h
  · rename_i q
    cases h
    exact ⟨q.1, q.2, rfl⟩
  · cases h
theorem scr_at (h : K.lookup a = none) : scr K a vs ns a = some (.frz (scrO vs) (.lst (ns.map V.int))) := if_pos ⟨rfl, h⟩
theorem scr_only : Only (scr K a vs ns) := fun b => by
  cases q : scr K a vs ns b with
  | none => exact .inl rfl
  | some u => exact .inr ⟨_, _, by rw [(scr_some q).2.2]⟩
theorem scr_sq {h : Heap} (KX : K.In h) (ha : h.get? a = some (scrO vs)) (hi : IntsAre vs ns) (hl : ns.length ≤ sizeLine) : SqL K (scr K a vs ns) a (ns.map V.int) := by
  have rv : Vals (ns.map V.int) vs := vals_ints hi
  cases q : K.lookup a with
  | none => exact .inl (.inr ⟨_, scr_at q⟩)
  | some o =>
    have e := KX a o q
    rw [ha] at e
    cases e
    exact .inr ⟨_, vs.toArray, _, q, rfl, rfl, rfl, by rw [List.size_toArray, hi.length]; exact hl, by simpa using rv⟩
theorem law_callB (KX : K.In s1.heap) (hns : s1.heap.Ns mainGlobals mg) (hb : s1.heap.Ns builtinsNs mb) (hbb : ∀ y : Str, y ≠ "__name__" → mb y = bootBuiltins y) (hlim : s1.heap.NoLimit) (hg : s1.gens = #[]) (ha : s1.heap.get? a = some (scrO vs)) (hi : IntsAre vs ns) (hl : ns.length ≤ sizeLine)
    (hr : Room k callerA) (F : ∀ base : Heap, K.In base → base.Ns mainGlobals mg → FnB true P w K mg base k fa fd [x] sp) (hbind : ∀ (s : Shared) (u : Value), BindsTo s fd ⟨[u], []⟩ [(x, u)]) (hsp : ∀ H : Hp, Only H → SqL K H a (ns.map V.int) → sp [.ref a] H (fun v _ => v = .bl true) E0) :
    codeAny (model P w) callerA (.call (.ref fa) ⟨[.ref a], []⟩) (fun r s' => r = .ok (.ret (.bool true)) ∧ OldK s1.heap s'.heap ∧ s'.os = s1.os ∧ AllBare s'.gens) s1 := by
  have free : ∀ {b : Addr} {o : Obj}, s1.heap.get? b = some o → (b = a → K.lookup a = none → False) → scr K a vs ns b = none := fun {b o} e n => by
    cases q : scr K a vs ns b with
    | none => rfl
    | some u => exact (n (scr_some q).1 (scr_some q).2.1).elim
  have nsH : ∀ {b : Addr} {m : Str → Option Value}, s1.heap.Ns b m → (hidT s1.heap (scr K a vs ns)).Ns b m := fun {b m} ⟨o, es, ep, e, d, r⟩ => ⟨o, es, ep, hidT_get e (free e fun z _ => by
    subst z
    rw [ha] at e
    cases e
    cases d), d, r⟩
  have kinH : K.In (hidT s1.heap (scr K a vs ns)) := fun b o e => hidT_get (KX b o e) (free (KX b o e) fun z n => by
    subst z
    rw [n] at e
    cases e)
  have okH : HOk P w (scr K a vs ns) s1.heap := fun b u z => by
    obtain ⟨rfl, _, rfl⟩ := scr_some z
    exact ⟨ha, by rw [List.length_map]; exact hl, vs, _, vals_ints hi, ha⟩
  have modH : Mod K mg (hidT s1.heap (scr K a vs ns)) := ⟨kinH, nsH hns, ⟨mb, nsH hb, hbb⟩, by
    obtain ⟨mc, h1, h2⟩ := hlim
    exact ⟨mc, nsH h1, h2⟩⟩
  have e0 : Env0 P w K mg (hidT s1.heap (scr K a vs ns)) callerA [] s1 (scr K a vs ns) := ⟨rfl, modH, fun b o e => of_hidT e, Nat.le_of_eq (hidT_size _ _), trivial, fun b hb => absurd (show b ∈ ([] : List Addr) from hb) (by simp), okH, .of_eq hg⟩
  refine codeAny_mono ((F _ kinH (nsH hns)).run callerA [] s1 _ ⟨[.ref a], []⟩ [.ref a] [.ref a] _ hr (fun _ => rfl) e0 (hbind s1 (.ref a)) (.cons rfl .nil) (hsp _ scr_only (scr_sq KX ha hi hl))) fun r s' z => ?_
  cases r with
  | error er => exact False.elim z
  | ok fl =>
    cases fl with
    | next => exact False.elim z
    | brk => exact False.elim z
    | cont => exact False.elim z
    | ret u =>
      obtain ⟨v, H', os, bare, un, ok2, rel, e⟩ := z
      have e' : v = .bl true := e
      subst e'
      obtain rfl : u = Value.bool true := rel
      refine ⟨rfl, OldK.of_keep fun b o e => ?_, os, bare⟩
      cases q : scr K a vs ns b with
      | none => exact un.keep b o e q (by intro z; exact absurd (show b ∈ ([] : List Addr) from z) (by simp)) (by simp)
      | some u =>
        obtain ⟨rfl, _, rfl⟩ := scr_some q
        obtain ⟨e2, _⟩ := ok2 b _ (un.frzs b _ _ q)
        rw [ha] at e
        cases e
        exact e2
end
/-- the goal that the head leaves; the def may use that no guard stands; of the script's numbers the size is known -/
theorem walk_D {l : PySem.W.OpenLaw} {n k : Nat} {q : Program} {loose : List Str} {XP : (Str → Option Value) → Heap → Prop} {YP : World → Heap → Prop} {d : DefRec} {K : Params → PySem.W.Frag} {sp : PySem.W.Frag → Sp} {x : Str} (hn : l.most = some n) (hdf : d.params.defaults = []) (hY : ∀ (w : World) (h : Heap), YP w h → (K w.params).In h)
    (F : ∀ (w : World) (mg : Str → Option Value) (fa : Addr) (h : Heap), (K w.params).In h → h.Ns mainGlobals mg → mg d.name = some (.ref fa) →
      ∃ fd : FuncData, (∀ (s : Shared) (u : Value), BindsTo s fd ⟨[u], []⟩ [(x, u)]) ∧ ∀ base : Heap, (K w.params).In base → base.Ns mainGlobals mg → FnB true l.prog w (K w.params) mg base k fa fd [x] (sp (K w.params)))
    (hsp : ∀ (K : PySem.W.Frag) (H : Hp) (a : Addr) (ns : List Int), ns.length ≤ n → (∀ z ∈ ns, Builtin.Int.intBits z ≤ 1048576) → SqL K H a (ns.map V.int) → sp K [.ref a] H (fun v _ => v = .bl true) E0) (hr : Room k callerA := by exact ⟨rfl, by decide, by decide⟩) (hn2 : n ≤ sizeLine := by decide) :
    PySem.W.WalkO q loose XP YP l.row.toRowW d [] (fun f vs => PySem.call f vs) := by
  refine Att.attach_callB hn hdf fun w s0 s1 mg mb fa o pm cd doc a vs ns G Y ho hd hcd hmg hobj hints hlen hbits hg => ?_
  obtain ⟨fd, hb, hF⟩ := F w mg fa _ (hY w _ Y) G.T.g hmg
  exact law_callB (hY w _ Y) G.T.g G.T.b G.T.builtins G.T.nolimit hg hobj hints (Nat.le_trans hlen hn2) hr hF hb fun H _ hS => hsp _ H a ns hlen hbits hS
theorem dens_ints {K : PySem.W.Frag} {H : Hp} : ∀ ns : List Int, Dens K H (ns.map V.int) (ns.map D.int)
  | [] => .nil
  | i :: ns => .cons (.int i) (dens_ints ns)
/-- the law's promise: a list of ints in, True out -/
def spLaw (m : Nat) (K : PySem.W.Frag) : Sp := spD K fun ds r => ∃ ns : List Int, ds = [.lstK (ns.map D.int)] ∧ ns.length ≤ m ∧ (∀ z ∈ ns, Builtin.Int.intBits z ≤ 1048576) ∧ r = .val (.bl true)
theorem spLaw_of {m : Nat} {K : PySem.W.Frag} {H : Hp} {a : Addr} {ns : List Int} (h1 : ns.length ≤ m) (h2 : ∀ z ∈ ns, Builtin.Int.intBits z ≤ 1048576) (hS : SqL K H a (ns.map V.int)) : spLaw m K [.ref a] H (fun v _ => v = .bl true) E0 :=
  ⟨_, _, H, ⟨ns, rfl, h1, h2, rfl⟩, Ex.refl _, .cons (.lstK hS (dens_ints ns)) .nil, fun w Hs' H' g z => by
    have z' : Den K Hs' w (.bl true) := z
    cases z'
    rfl⟩
end Dn
end

section
set_option Elab.async false
set_option linter.all false
set_option maxRecDepth 100000
set_option maxHeartbeats 2000000
/-! DRat: the plain law of ratios: lowest terms, sizes. -/
namespace Dn
open PySem PySem.Spec L2
/-! ### sizes -/
def Bd (n : Nat) (i : Int) : Prop := i.natAbs < 2 ^ n
theorem Bd.mono {m n : Nat} {i : Int} (h : Bd m i) (l : m ≤ n) : Bd n i := Nat.lt_of_lt_of_le h (Nat.pow_le_pow_right (by decide) l)
theorem Bd.log {n m : Nat} {i : Int} (h : Bd n i) (l : n ≤ m) (hm : 0 < m := by decide) : i.natAbs.log2 < m := by
  by_cases z : i.natAbs = 0
  · rw [z]; exact hm
  · exact Nat.lt_of_lt_of_le ((Nat.log2_lt z).mpr h) l
theorem Bd.add {m : Nat} {i j : Int} (h : Bd m i) (q : Bd m j) : Bd (m + 1) (i + j) := by
  have e := Int.natAbs_add_le i j
  unfold Bd at *
  rw [Nat.pow_succ]
  omega
theorem Bd.sub {m : Nat} {i j : Int} (h : Bd m i) (q : Bd m j) : Bd (m + 1) (i - j) := by
  have e := Int.natAbs_sub_le i j
  unfold Bd at *
  rw [Nat.pow_succ]
  omega
theorem Bd.mul {m n : Nat} {i j : Int} (h : Bd m i) (q : Bd n j) : Bd (m + n) (i * j) := by
  unfold Bd at *
  rw [Int.natAbs_mul, Nat.pow_add]
  exact Nat.mul_lt_mul'' h q
theorem Bd.neg {m : Nat} {i : Int} (h : Bd m i) : Bd m (-i) := by
  unfold Bd at *
  rwa [Int.natAbs_neg]
theorem Bd.cmul {m n : Nat} {i j : Int} (h : Bd m i) (q : Bd n j) (l : m + n ≤ 100000 := by decide) : CMulW i j := by
  have a := h.log (m := m + 1) (by omega) (by omega)
  have b := q.log (m := n + 1) (by omega) (by omega)
  unfold CMulW
  omega
theorem Bd.cdiv {m : Nat} {j : Int} (i : Int) (h : Bd m j) (n : j ≠ 0) (l : m ≤ 9000 := by decide) : CDivA i j := ⟨n, h.log l⟩
def Sz (n : Nat) (q : Rat) : Prop := Bd n q.num ∧ Bd n (q.den : Int)
theorem Sz.mono {m n : Nat} {q : Rat} (h : Sz m q) (l : m ≤ n) : Sz n q := ⟨h.1.mono l, h.2.mono l⟩

/-! ### lowest terms -/
/-- the divisor: the greatest common one, with the bottom's sign -/
def sgcd (t b : Int) : Int := if b < 0 then 0 - (Nat.gcd t.natAbs b.natAbs : Int) else (Nat.gcd t.natAbs b.natAbs : Int)
theorem sgcd_ne {t b : Int} (h : b ≠ 0) : sgcd t b ≠ 0 := by
  have : 0 < Nat.gcd t.natAbs b.natAbs := Nat.gcd_pos_of_pos_right _ (by omega)
  unfold sgcd
  split <;> omega
theorem sgcd_bd {n : Nat} {t b : Int} (h : b ≠ 0) (q : Bd n b) : Bd n (sgcd t b) := by
  have : Nat.gcd t.natAbs b.natAbs ≤ b.natAbs := Nat.gcd_le_right _ (by omega)
  unfold Bd at *
  unfold sgcd
  split <;> omega
theorem fdiv_exact {i g c : Int} (hg : g ≠ 0) (h : i = g * c) : i.fdiv g = c := by
  rw [h, Int.mul_comm, Int.mul_fdiv_cancel _ hg]
theorem low_parts (t b : Int) (hb : b ≠ 0) : ∃ u v : Int, t = (Nat.gcd t.natAbs b.natAbs : Nat) * u ∧ b = (Nat.gcd t.natAbs b.natAbs : Nat) * v ∧ 0 < Nat.gcd t.natAbs b.natAbs ∧ (Rat.divInt t b).num = b.sign * u ∧ ((Rat.divInt t b).den : Int) = b.sign * v := by
  have hg : 0 < Nat.gcd t.natAbs b.natAbs := Nat.gcd_pos_of_pos_right _ (by omega)
  obtain ⟨u, hu⟩ : ((Nat.gcd t.natAbs b.natAbs : Nat) : Int) ∣ t := by have h : ((Int.gcd t b : Nat) : Int) ∣ t := Int.gcd_dvd_left ..; exact h
  obtain ⟨v, hv⟩ : ((Nat.gcd t.natAbs b.natAbs : Nat) : Int) ∣ b := by have h : ((Int.gcd t b : Nat) : Int) ∣ b := Int.gcd_dvd_right ..; exact h
  refine ⟨u, v, hu, hv, hg, ?_, ?_⟩
  · rw [Rat.num_divInt, Int.gcd_comm]
    show b.sign * t / ((Nat.gcd t.natAbs b.natAbs : Nat) : Int) = _
    generalize Nat.gcd t.natAbs b.natAbs = g at *
    rw [hu, Int.mul_left_comm]
    exact Int.mul_ediv_cancel_left _ (by omega)
  · have d := Rat.den_divInt t b
    rw [if_neg hb, Int.gcd_comm] at d
    rw [d]
    show ((b.natAbs / Nat.gcd t.natAbs b.natAbs : Nat) : Int) = _
    generalize hgg : Nat.gcd t.natAbs b.natAbs = g at *
    have hs : b.sign * b = (b.natAbs : Int) := by
      rcases Int.lt_or_gt_of_ne hb with q | q
      · rw [Int.sign_eq_neg_one_of_neg q]; omega
      · rw [Int.sign_eq_one_of_pos q]; omega
    have : (b.natAbs : Int) = (g : Int) * (b.sign * v) := by
      rw [← hs, Int.mul_left_comm, ← hv]
    rw [Int.natCast_ediv, this]
    exact Int.mul_ediv_cancel_left _ (by omega)
theorem low_both (t b : Int) (hb : b ≠ 0) : t.fdiv (sgcd t b) = (Rat.divInt t b).num ∧ b.fdiv (sgcd t b) = ((Rat.divInt t b).den : Int) := by
  obtain ⟨u, v, hu, hv, hg, e1, e2⟩ := low_parts t b hb
  have hne := sgcd_ne (t := t) hb
  rw [e1, e2]
  unfold sgcd at *
  by_cases n : b < 0
  · rw [if_pos n] at hne ⊢
    rw [Int.sign_eq_neg_one_of_neg n]
    exact ⟨fdiv_exact hne (by generalize Nat.gcd t.natAbs b.natAbs = g at *; rw [hu]; rw [Int.zero_sub, Int.neg_mul, Int.neg_mul, Int.mul_neg, Int.neg_neg, Int.one_mul]), fdiv_exact hne (by generalize Nat.gcd t.natAbs b.natAbs = g at *; rw [hv]; rw [Int.zero_sub, Int.neg_mul, Int.neg_mul, Int.mul_neg, Int.neg_neg, Int.one_mul])⟩
  · rw [if_neg n] at hne ⊢
    rw [Int.sign_eq_one_of_pos (by omega), Int.one_mul, Int.one_mul]
    exact ⟨fdiv_exact hne hu, fdiv_exact hne hv⟩
theorem part_le {g : Nat} {t u s : Int} (hg : 0 < g) (h : t = (g : Int) * u) (hs : s.natAbs ≤ 1) : (s * u).natAbs ≤ t.natAbs := by
  rw [h, Int.natAbs_mul, Int.natAbs_mul]
  show s.natAbs * u.natAbs ≤ g * u.natAbs
  exact Nat.mul_le_mul_right _ (by omega)
theorem sign_le (b : Int) : b.sign.natAbs ≤ 1 := by
  rcases Int.lt_trichotomy b 0 with q | q | q
  · rw [Int.sign_eq_neg_one_of_neg q]; decide
  · rw [q]; decide
  · rw [Int.sign_eq_one_of_pos q]; decide
theorem sz_divInt {n : Nat} {t b : Int} (hb : b ≠ 0) (h1 : Bd n t) (h2 : Bd n b) : Sz n (Rat.divInt t b) := by
  obtain ⟨u, v, hu, hv, hg, e1, e2⟩ := low_parts t b hb
  have s := sign_le b
  refine ⟨?_, ?_⟩
  · rw [e1]; exact Nat.lt_of_le_of_lt (part_le hg hu s) h1
  · rw [e2]; exact Nat.lt_of_le_of_lt (part_le hg hv s) h2
theorem den_ne (q : Rat) : (q.den : Int) ≠ 0 := by
  have := q.den_nz
  omega
theorem den_pos (q : Rat) : (0 : Int) < (q.den : Int) := by
  have := q.den_pos
  omega
theorem mul_ne {a b : Int} (h : a ≠ 0) (q : b ≠ 0) : a * b ≠ 0 := fun e => by
  rcases Int.mul_eq_zero.mp e with z | z
  · exact h z
  · exact q z
/-! ### what is reckoned of tops and bottoms -/
theorem of_add (x y : Rat) : Rat.divInt (x.num * y.den + y.num * x.den) (x.den * y.den) = x + y := by
  rw [← Rat.divInt_add_divInt _ _ (den_ne x) (den_ne y), Rat.num_divInt_den, Rat.num_divInt_den]
theorem of_sub (x y : Rat) : Rat.divInt (x.num * y.den - y.num * x.den) (x.den * y.den) = x - y := by
  rw [← Rat.divInt_sub_divInt _ _ (den_ne x) (den_ne y), Rat.num_divInt_den, Rat.num_divInt_den]
theorem of_mul (x y : Rat) : Rat.divInt (x.num * y.num) (x.den * y.den) = x * y := by
  rw [← Rat.divInt_mul_divInt, Rat.num_divInt_den, Rat.num_divInt_den]
theorem of_neg (x : Rat) : Rat.divInt (0 - x.num) x.den = -x := by
  rw [Int.zero_sub, ← Rat.neg_divInt, Rat.num_divInt_den]
theorem of_div (x y : Rat) : Rat.divInt (x.num * y.den) (x.den * y.num) = x / y := by
  rw [← Rat.divInt_mul_divInt, Rat.num_divInt_den, Rat.div_def, ← Rat.inv_divInt, Rat.num_divInt_den]
theorem of_int (i : Int) : Rat.divInt i 1 = (i : Rat) := by
  have e : Rat.divInt (i : Rat).num ((i : Rat).den : Int) = (i : Rat) := Rat.num_divInt_den _
  simpa using e
theorem sz_int {n : Nat} {i : Int} (h : Bd n i) (l : 0 < n) : Sz n (i : Rat) := by
  refine ⟨by simpa using h, ?_⟩
  have : ((i : Rat).den : Int) = 1 := by simp
  rw [this]
  show 1 < 2 ^ n
  exact Nat.one_lt_two_pow (by omega)
section
variable {m n : Nat} {x y : Rat}
theorem Sz.add (h : Sz m x) (q : Sz m y) : Sz (m + m + 1) (x + y) := by
  rw [← of_add]
  exact sz_divInt (mul_ne (den_ne x) (den_ne y)) ((h.1.mul q.2).add (q.1.mul h.2)) ((h.2.mul q.2).mono (by omega))
theorem Sz.sub (h : Sz m x) (q : Sz m y) : Sz (m + m + 1) (x - y) := by
  rw [← of_sub]
  exact sz_divInt (mul_ne (den_ne x) (den_ne y)) ((h.1.mul q.2).sub (q.1.mul h.2)) ((h.2.mul q.2).mono (by omega))
theorem Sz.mul (h : Sz m x) (q : Sz m y) : Sz (m + m) (x * y) := by
  rw [← of_mul]
  exact sz_divInt (mul_ne (den_ne x) (den_ne y)) (h.1.mul q.1) (h.2.mul q.2)
theorem Sz.div (h : Sz m x) (q : Sz m y) (n : y ≠ 0) : Sz (m + m) (x / y) := by
  rw [← of_div]
  exact sz_divInt (mul_ne (den_ne x) fun e => n (Rat.num_eq_zero.mp e)) (h.1.mul q.2) (h.2.mul q.1)
theorem Sz.neg (h : Sz m x) : Sz m (-x) := ⟨by rw [Rat.neg_num]; exact h.1.neg, by rw [Rat.neg_den]; exact h.2⟩
end

/-! ### Euclid's way -/
theorem gcd_step {a b : Int} (ha : 0 ≤ a) (hb : 0 < b) : Nat.gcd b.natAbs (a % b).natAbs = Nat.gcd a.natAbs b.natAbs := by
  have e : (a % b).natAbs = a.natAbs % b.natAbs := by
    have := Int.emod_nonneg a (by omega : b ≠ 0)
    obtain ⟨m, rfl⟩ := Int.eq_ofNat_of_zero_le ha
    obtain ⟨n, rfl⟩ := Int.eq_ofNat_of_zero_le (Int.le_of_lt hb)
    rw [← Int.natCast_emod]
    rfl
  rw [e, Nat.gcd_comm b.natAbs, ← Nat.gcd_rec, Nat.gcd_comm]
/-! ### data -/
/-- a ratio as the program holds it; as the law holds it -/
def qD (C : Addr) (q : Rat) : D := .obj C [("own_top", .int q.num), ("own_bottom", .int (q.den : Int))]
def qP (q : Rat) : D := .tup [.int q.num, .int (q.den : Int)]
theorem q_eq {x y : Rat} : (decide (x.num = y.num) && decide ((x.den : Int) = (y.den : Int))) = decide (x = y) := by
  by_cases h : x = y
  · subst h; simp
  · rw [decide_eq_false h, Bool.and_eq_false_iff]
    by_cases a : x.num = y.num
    · exact .inr (decide_eq_false fun b => h (Rat.ext a (by omega)))
    · exact .inl (decide_eq_false a)
theorem q_lt {x y : Rat} : decide (x.num * y.den < y.num * x.den) = decide (x < y) := by
  rw [decide_eq_decide, Rat.lt_iff]
theorem q_le {x y : Rat} : decide (x.num * y.den ≤ y.num * x.den) = decide (x ≤ y) := by
  rw [decide_eq_decide, Rat.le_iff]
end Dn
end

section
set_option Elab.async false
set_option linter.all false
set_option maxRecDepth 100000
set_option maxHeartbeats 2000000
/-! DDig: the decimal digits of ints, cut at 60 digits. -/
namespace Dn
open PySem PySem.Spec L2
def sx (l : List Char) : Str := ⟨(l.map Char.toNat).toArray⟩
theorem sx_of (s : String) : Str.ofString s = sx s.toList := Str.ofString_eq_toList s
theorem sx_app (a b : List Char) : sx a ++ sx b = sx (a ++ b) := by
  show Str.mk ((a.map Char.toNat).toArray ++ (b.map Char.toNat).toArray) = _
  unfold sx
  rw [List.map_append, List.append_toArray]
theorem sx_len (a : List Char) : (sx a).length = a.length := by
  show (a.map Char.toNat).toArray.size = _
  simp
theorem str_nat (n : Nat) : Str.ofString (toString (n : Int)) = sx (Nat.toDigits 10 n) := by
  rw [sx_of]
  have e : (toString (n : Int)).toList = Nat.toDigits 10 n := by
    show (toString n).toList = _
    show (Nat.repr n).toList = _
    unfold Nat.repr
    simp
  rw [e]
theorem str_neg {n : Nat} (h : 0 < n) : Str.ofString (toString (-(n : Int))) = sx ('-' :: Nat.toDigits 10 n) := by
  obtain ⟨m, rfl⟩ : ∃ m, n = m + 1 := ⟨n - 1, by omega⟩
  rw [sx_of]
  have e : (toString (-((m + 1 : Nat) : Int))).toList = '-' :: Nat.toDigits 10 (m + 1) := by
    show (toString (Int.negSucc m)).toList = _
    show ("-" ++ toString (m + 1)).toList = _
    rw [String.toList_append]
    show "-".toList ++ (Nat.repr (m + 1)).toList = _
    unfold Nat.repr
    simp
  rw [e]
theorem dg_nil (n : Nat) : Nat.toDigits 10 n ≠ [] := fun e => by
  have q : 0 < (Nat.toDigits 10 n).length := Nat.length_toDigits_pos
  rw [e] at q
  exact absurd q (by decide)
theorem dg_step {n : Nat} (h : 10 ≤ n) : Nat.toDigits 10 n = Nat.toDigits 10 (n / 10) ++ Nat.toDigits 10 (n % 10) := by
  have e := Nat.toDigits_append_toDigits (b := 10) (n := n / 10) (d := n % 10) (by decide) (by omega) (Nat.mod_lt _ (by decide))
  rw [e, Nat.div_add_mod]
theorem dg_split : ∀ (k n : Nat), 10 ^ k ≤ n → Nat.toDigits 10 n = Nat.toDigits 10 (n / 10 ^ k) ++ (Nat.toDigits 10 (n % 10 ^ k + 10 ^ k)).drop 1
  | 0, n, h => by
    rw [Nat.pow_zero, Nat.div_one, Nat.mod_one]
    show _ = _ ++ (Nat.toDigits 10 1).drop 1
    have : (Nat.toDigits 10 1).drop 1 = [] := by decide
    rw [this, List.append_nil]
  | k + 1, n, h => by
    have p : 0 < 10 ^ k := Nat.pow_pos (by decide)
    have e : 10 ^ (k + 1) = 10 * 10 ^ k := by rw [Nat.pow_succ, Nat.mul_comm]
    have h1 : 10 ^ k ≤ n / 10 := (Nat.le_div_iff_mul_le (by decide)).mpr (by rw [e] at h; omega)
    have d : n / 10 ^ (k + 1) = n / 10 / 10 ^ k := by rw [Nat.div_div_eq_div_mul, e]
    have r1 : (n % 10 ^ (k + 1) + 10 ^ (k + 1)) / 10 = n / 10 % 10 ^ k + 10 ^ k := by
      rw [e, Nat.add_mul_div_left _ _ (by decide), Nat.mod_mul_right_div_self]
    have r2 : (n % 10 ^ (k + 1) + 10 ^ (k + 1)) % 10 = n % 10 := by
      rw [e, Nat.add_mul_mod_self_left, Nat.mod_mul_right_mod]
    have big : 10 ≤ n % 10 ^ (k + 1) + 10 ^ (k + 1) := by rw [e]; omega
    have big2 : 10 ≤ n := by rw [e] at h; omega
    rw [dg_step big2, dg_split k (n / 10) h1, d, dg_step big, r1, r2, List.append_assoc]
    congr 1
    rw [List.drop_append_of_le_length]
    have q : 0 < (Nat.toDigits 10 (n / 10 % 10 ^ k + 10 ^ k)).length := Nat.length_toDigits_pos
    omega
theorem cut1 (l : List Char) (h : l ≠ []) : cutS (sx l) (some 1) none = sx (l.drop 1) := by
  have p : 1 ≤ l.length := by
    cases l with
    | nil => exact absurd rfl h
    | cons a b => exact Nat.succ_le_succ (Nat.zero_le _)
  have e1 : HT.sIx (sx l).length 0 (some 1) = 1 := by
    rw [show (some (1 : Int)) = some ((1 : Nat) : Int) from rfl, HT.sIx_nat, sx_len]
    omega
  unfold cutS
  rw [e1, HT.sIx_none, sx_len]
  show Str.mk (((l.map Char.toNat).drop 1).take (l.length - 1)).toArray = _
  rw [List.take_of_length_le (by rw [List.length_drop, List.length_map]; exact Nat.le_refl _), ← List.map_drop]
  rfl
theorem dg_len {n : Nat} {k : Nat} (hk : 0 < k) (h : Bd k (n : Int)) : (Nat.toDigits 10 n).length ≤ k + 1 := by
  have e := int_text_length_le (a := (n : Int)) hk (h.log (Nat.le_refl _) hk)
  have q : (Str.ofString (toString (n : Int))).length = (toString (n : Int)).length := ofString_length _
  rw [str_nat, sx_len] at q
  omega
end Dn
end

section
set_option Elab.async false
set_option linter.all false
set_option maxRecDepth 100000
set_option maxHeartbeats 2000000
/-! DMap: comprehensions that map; several names at once. -/
namespace Dn
open PySem PySem.Spec L2
section
variable {X : Cx} {scope : Scope} {elt tg iter : Expr} {ρ ρ1 : Rho} {xs ys : List D} {ts : List Nat} {f : D → Rho → Rho → Prop} {pos : Pos} {bi : Bool} {k : Kn}
/-- [e for x in it]: the slots but the block's own stay; the i-th value is the i-th of ys -/
theorem pd_map (own : List (Str × Nat)) (hN : X.N.Nodup) (hi : PID X tg iter ρ xs ρ1) (hg : PGDb X scope tg ts f) (hl : ys.length = xs.length) (ht : ∀ (i : Nat) (d y : D), xs[i]? = some d → ys[i]? = some y → ∃ ρ2 ρ3, f d (wipeR ρ1 (own.map (·.2))) ρ2 ∧ PDb X scope elt ρ2 (.val y) ρ3 ∧ wipeR ρ3 (own.map (·.2)) = wipeR ρ1 (own.map (·.2)))
    (hz : xs.length ≤ 1000000) (ok : BlkOk X.N X.env.scope scope own := by exact blkOk_by rfl) (hts : ∀ t ∈ ts, t ∈ own.map (·.2) := by decide) (hv0 : ∀ v ∈ own.map (·.2), v ≠ 0 := by decide) (hc : X.calm = true := by rfl) (hs : ∀ x, foldedSetIterable iter X.env x = pure x := by intro _; rfl) :
    PD X (.ListComp elt [⟨tg, iter, [], 0⟩] scope pos) ρ (.own (.lst ys)) (wipeR ρ1 (own.map (·.2))) := by
  have h := pd_lc (pos := pos) (elt := elt) (ifs := []) own (fun _ => wipeR ρ1 (own.map (·.2))) (fun i => ys.take i) hN hi ok hg rfl (fun _ => wipeR_twice _ _) (by simp) (fun i => by rw [List.length_take]; omega) hz (fun i d hd => ?_) hts hv0 hc hs
  · rw [← hl, List.take_length] at h
    exact h
  · have hi : i < ys.length := by
      rw [hl]
      exact (List.getElem?_eq_some_iff.mp hd).1
    obtain ⟨ρ2, ρ3, h1, h2, h3⟩ := ht i d ys[i] hd (List.getElem?_eq_getElem hi)
    exact ⟨ρ2, true, ρ2, h1, ptsb_nil, fun _ => ⟨_, ρ3, h2, h3, take_step (List.getElem?_eq_getElem hi)⟩, fun z => nomatch z⟩
/-- name = [e for x in it] on one line -/
theorem ps1_map {y : Str} {py spos : Pos} (i : Nat) (own : List (Str × Nat)) (hN : X.N.Nodup) (hi : PID X tg iter ρ xs ρ1) (hg : PGDb X scope tg ts f) (hl : ys.length = xs.length) (ht : ∀ (i : Nat) (d y : D), xs[i]? = some d → ys[i]? = some y → ∃ ρ2 ρ3, f d (wipeR ρ1 (own.map (·.2))) ρ2 ∧ PDb X scope elt ρ2 (.val y) ρ3 ∧ wipeR ρ3 (own.map (·.2)) = wipeR ρ1 (own.map (·.2)))
    (hz : xs.length ≤ 1000000) (hsw : swapsWith (.ListComp elt [⟨tg, iter, [], 0⟩] scope pos) (some (.Name y py)) spos.line X.env = pure true := by rfl) (hk : k.nx ((wipeR ρ1 (own.map (·.2))).set i (.own (.lst ys))) := by rfl) (hy : X.N[i]? = some y := by rfl) (hyl : X.env.scope.names.lookup y = some .local := by rfl) (hio : i ≠ 0 ∨ bi = false := by first | exact Or.inl (by decide) | exact Or.inr rfl)
    (ok : BlkOk X.N X.env.scope scope own := by exact blkOk_by rfl) (hts : ∀ t ∈ ts, t ∈ own.map (·.2) := by decide) (hv0 : ∀ v ∈ own.map (·.2), v ≠ 0 := by decide) (hc : X.calm = true := by rfl) (hs : ∀ x, foldedSetIterable iter X.env x = pure x := by intro _; rfl) :
    PS1 X bi (.Assign [.Name y py] (.ListComp elt [⟨tg, iter, [], 0⟩] scope pos) spos) ρ k := by
  refine ps1_lc i own (fun _ => wipeR ρ1 (own.map (·.2))) (fun i => ys.take i) hN hi ok hg rfl (fun _ => wipeR_twice _ _) (by simp) (fun i => by rw [List.length_take]; omega) hz (fun i d hd => ?_) hsw ?_ hy hyl hio hts hv0 hc hs
  · have hi : i < ys.length := by
      rw [hl]
      exact (List.getElem?_eq_some_iff.mp hd).1
    obtain ⟨ρ2, ρ3, h1, h2, h3⟩ := ht i d ys[i] hd (List.getElem?_eq_getElem hi)
    exact ⟨ρ2, true, ρ2, h1, ptsb_nil, fun _ => ⟨_, ρ3, h2, h3, take_step (List.getElem?_eq_getElem hi)⟩, fun z => nomatch z⟩
  · rw [← hl, List.take_length]
    exact hk
end
end Dn
end

section
set_option Elab.async false
set_option linter.all false
set_option maxRecDepth 100000
set_option maxHeartbeats 2000000
namespace Dn
open PySem PySem.Spec L2
/-! ### the text by places -/
def top (i : Nat) : Stmt := PySem.Challenge.pw_straightened_k11_whole_ratios_reckoned.main.body.getD i (.Pass ⟨0, 0, 0, 0⟩)
abbrev s_InvalidNumber_init : Stmt := inClass (top 3) 0
theorem cs_InvalidNumber_init : FnScope ["self", "value"] ["self", "value"] (defScope s_InvalidNumber_init) := ⟨rfl, rfl, rfl, by decide +kernel, rfl, by decide +kernel, by decide +kernel⟩
abbrev s_is_integer : Stmt := top 6
theorem cs_is_integer : FnScope ["value"] ["value"] (defScope s_is_integer) := ⟨rfl, rfl, rfl, by decide +kernel, rfl, by decide +kernel, by decide +kernel⟩
abbrev s_is_list : Stmt := top 7
theorem cs_is_list : FnScope ["value"] ["value"] (defScope s_is_list) := ⟨rfl, rfl, rfl, by decide +kernel, rfl, by decide +kernel, by decide +kernel⟩
abbrev s_digits_of : Stmt := top 10
theorem cs_digits_of : FnScope ["number", "left", "told", "part", "sign"] ["number"] (defScope s_digits_of) := ⟨rfl, rfl, rfl, by decide +kernel, rfl, by decide +kernel, by decide +kernel⟩
abbrev s_common_part : Stmt := top 11
theorem cs_common_part : FnScope ["one", "other"] ["one", "other"] (defScope s_common_part) := ⟨rfl, rfl, rfl, by decide +kernel, rfl, by decide +kernel, by decide +kernel⟩
abbrev s_Ratio_init : Stmt := inClass (top 12) 0
theorem cs_Ratio_init : FnScope ["self", "top", "bottom", "common"] ["self", "top", "bottom"] (defScope s_Ratio_init) := ⟨rfl, rfl, rfl, by decide +kernel, rfl, by decide +kernel, by decide +kernel⟩
abbrev s_Ratio_top : Stmt := inClass (top 12) 1
theorem cs_Ratio_top : FnScope ["self"] ["self"] (defScope s_Ratio_top) := ⟨rfl, rfl, rfl, by decide +kernel, rfl, by decide +kernel, by decide +kernel⟩
abbrev s_Ratio_bottom : Stmt := inClass (top 12) 2
theorem cs_Ratio_bottom : FnScope ["self"] ["self"] (defScope s_Ratio_bottom) := ⟨rfl, rfl, rfl, by decide +kernel, rfl, by decide +kernel, by decide +kernel⟩
abbrev s_Ratio_sign : Stmt := inClass (top 12) 3
theorem cs_Ratio_sign : FnScope ["self"] ["self"] (defScope s_Ratio_sign) := ⟨rfl, rfl, rfl, by decide +kernel, rfl, by decide +kernel, by decide +kernel⟩
abbrev s_Ratio_is_whole : Stmt := inClass (top 12) 4
theorem cs_Ratio_is_whole : FnScope ["self"] ["self"] (defScope s_Ratio_is_whole) := ⟨rfl, rfl, rfl, by decide +kernel, rfl, by decide +kernel, by decide +kernel⟩
abbrev s_Ratio_total : Stmt := inClass (top 12) 5
theorem cs_Ratio_total : FnScope ["cls", "numbers", "number"] ["cls", "numbers"] (defScope s_Ratio_total) := ⟨rfl, rfl, rfl, by decide +kernel, rfl, by decide +kernel, by decide +kernel⟩
abbrev s_Ratio_add : Stmt := inClass (top 12) 6
theorem cs_Ratio_add : FnScope ["self", "other", "top", "bottom"] ["self", "other"] (defScope s_Ratio_add) := ⟨rfl, rfl, rfl, by decide +kernel, rfl, by decide +kernel, by decide +kernel⟩
abbrev s_Ratio_radd : Stmt := inClass (top 12) 7
theorem cs_Ratio_radd : FnScope ["self", "other", "top", "bottom"] ["self", "other"] (defScope s_Ratio_radd) := ⟨rfl, rfl, rfl, by decide +kernel, rfl, by decide +kernel, by decide +kernel⟩
abbrev s_Ratio_sub : Stmt := inClass (top 12) 8
theorem cs_Ratio_sub : FnScope ["self", "other", "top", "bottom"] ["self", "other"] (defScope s_Ratio_sub) := ⟨rfl, rfl, rfl, by decide +kernel, rfl, by decide +kernel, by decide +kernel⟩
abbrev s_Ratio_rsub : Stmt := inClass (top 12) 9
theorem cs_Ratio_rsub : FnScope ["self", "other", "top", "bottom"] ["self", "other"] (defScope s_Ratio_rsub) := ⟨rfl, rfl, rfl, by decide +kernel, rfl, by decide +kernel, by decide +kernel⟩
abbrev s_Ratio_mul : Stmt := inClass (top 12) 10
theorem cs_Ratio_mul : FnScope ["self", "other", "top", "bottom"] ["self", "other"] (defScope s_Ratio_mul) := ⟨rfl, rfl, rfl, by decide +kernel, rfl, by decide +kernel, by decide +kernel⟩
abbrev s_Ratio_rmul : Stmt := inClass (top 12) 11
theorem cs_Ratio_rmul : FnScope ["self", "other", "top", "bottom"] ["self", "other"] (defScope s_Ratio_rmul) := ⟨rfl, rfl, rfl, by decide +kernel, rfl, by decide +kernel, by decide +kernel⟩
abbrev s_Ratio_neg : Stmt := inClass (top 12) 12
theorem cs_Ratio_neg : FnScope ["self"] ["self"] (defScope s_Ratio_neg) := ⟨rfl, rfl, rfl, by decide +kernel, rfl, by decide +kernel, by decide +kernel⟩
abbrev s_Ratio_over : Stmt := inClass (top 12) 13
theorem cs_Ratio_over : FnScope ["self", "other", "top", "bottom"] ["self", "other"] (defScope s_Ratio_over) := ⟨rfl, rfl, rfl, by decide +kernel, rfl, by decide +kernel, by decide +kernel⟩
abbrev s_Ratio_size : Stmt := inClass (top 12) 14
theorem cs_Ratio_size : FnScope ["self"] ["self"] (defScope s_Ratio_size) := ⟨rfl, rfl, rfl, by decide +kernel, rfl, by decide +kernel, by decide +kernel⟩
abbrev s_Ratio_is_below : Stmt := inClass (top 12) 15
theorem cs_Ratio_is_below : FnScope ["self", "other", "top", "bottom"] ["self", "other"] (defScope s_Ratio_is_below) := ⟨rfl, rfl, rfl, by decide +kernel, rfl, by decide +kernel, by decide +kernel⟩
abbrev s_Ratio_is_at_most : Stmt := inClass (top 12) 16
theorem cs_Ratio_is_at_most : FnScope ["self", "other", "top", "bottom"] ["self", "other"] (defScope s_Ratio_is_at_most) := ⟨rfl, rfl, rfl, by decide +kernel, rfl, by decide +kernel, by decide +kernel⟩
abbrev s_Ratio_eq : Stmt := inClass (top 12) 17
theorem cs_Ratio_eq : FnScope ["self", "other"] ["self", "other"] (defScope s_Ratio_eq) := ⟨rfl, rfl, rfl, by decide +kernel, rfl, by decide +kernel, by decide +kernel⟩
abbrev s_Ratio_str : Stmt := inClass (top 12) 18
theorem cs_Ratio_str : FnScope ["self"] ["self"] (defScope s_Ratio_str) := ⟨rfl, rfl, rfl, by decide +kernel, rfl, by decide +kernel, by decide +kernel⟩
abbrev s_Ratio_repr : Stmt := inClass (top 12) 19
theorem cs_Ratio_repr : FnScope ["self"] ["self"] (defScope s_Ratio_repr) := ⟨rfl, rfl, rfl, by decide +kernel, rfl, by decide +kernel, by decide +kernel⟩
abbrev s_told_pair : Stmt := top 13
theorem cs_told_pair : FnScope ["value"] ["value"] (defScope s_told_pair) := ⟨rfl, rfl, rfl, by decide +kernel, rfl, by decide +kernel, by decide +kernel⟩
abbrev s_is_number : Stmt := top 14
theorem cs_is_number : FnScope ["value"] ["value"] (defScope s_is_number) := ⟨rfl, rfl, rfl, by decide +kernel, rfl, by decide +kernel, by decide +kernel⟩
abbrev s_ratio_of : Stmt := top 15
theorem cs_ratio_of : FnScope ["number"] ["number"] (defScope s_ratio_of) := ⟨rfl, rfl, rfl, by decide +kernel, rfl, by decide +kernel, by decide +kernel⟩
abbrev s_want_number : Stmt := top 16
theorem cs_want_number : FnScope ["value"] ["value"] (defScope s_want_number) := ⟨rfl, rfl, rfl, by decide +kernel, rfl, by decide +kernel, by decide +kernel⟩
abbrev s_total_of : Stmt := top 17
theorem cs_total_of : FnScope ["ratios", "found", "ratio"] ["ratios"] (defScope s_total_of) := ⟨rfl, rfl, rfl, by decide +kernel, rfl, by decide +kernel, by decide +kernel⟩
abbrev s_law_pot : Stmt := top 19
theorem cs_law_pot : FnScope ["_law_script", "_law_k", "_law_cell"] ["_law_script", "_law_k"] (defScope s_law_pot) := ⟨rfl, rfl, rfl, by decide +kernel, rfl, by decide +kernel, by decide +kernel⟩
abbrev s_law_draw : Stmt := top 20
theorem cs_law_draw : FnScope ["_law_pot_here", "_law_many", "_law_digit"] ["_law_pot_here", "_law_many"] (defScope s_law_draw) := ⟨rfl, rfl, rfl, by decide +kernel, rfl, by decide +kernel, by decide +kernel⟩
abbrev s_law_pick : Stmt := top 21
theorem cs_law_pick : FnScope ["_law_pot_here", "_law_some"] ["_law_pot_here", "_law_some"] (defScope s_law_pick) := ⟨rfl, rfl, rfl, by decide +kernel, rfl, by decide +kernel, by decide +kernel⟩
abbrev s_law_low : Stmt := top 22
theorem cs_law_low : FnScope ["_law_top", "_law_bottom", "_law_one", "_law_other"] ["_law_top", "_law_bottom"] (defScope s_law_low) := ⟨rfl, rfl, rfl, by decide +kernel, rfl, by decide +kernel, by decide +kernel⟩
abbrev s_law_number : Stmt := top 23
theorem cs_law_number : FnScope ["_law_pot_here", "_law_way", "_law_top", "_law_bottom"] ["_law_pot_here"] (defScope s_law_number) := ⟨rfl, rfl, rfl, by decide +kernel, rfl, by decide +kernel, by decide +kernel⟩
abbrev s_law_is : Stmt := top 24
theorem cs_law_is : FnScope ["_law_told", "_law_pair", "_law_sign", "_law_shown"] ["_law_told", "_law_pair"] (defScope s_law_is) := ⟨rfl, rfl, rfl, by decide +kernel, rfl, by decide +kernel, by decide +kernel⟩
abbrev s_law_pair_right : Stmt := top 25
theorem cs_law_pair_right : FnScope ["_law_one", "_law_other", "_law_near", "_law_far", "_law_a", "_law_b", "_law_c", "_law_d", "_law_rows", "_law_order", "_law_told", "_law_due"] ["_law_one", "_law_other", "_law_near", "_law_far"] (defScope s_law_pair_right) := ⟨rfl, rfl, rfl, by decide +kernel, rfl, by decide +kernel, by decide +kernel⟩
abbrev s_law_whole_right : Stmt := top 26
theorem cs_law_whole_right : FnScope ["_law_one", "_law_near", "_law_whole", "_law_a", "_law_b", "_law_rows", "_law_odd", "_law_told", "_law_due"] ["_law_one", "_law_near", "_law_whole"] (defScope s_law_whole_right) := ⟨rfl, rfl, rfl, by decide +kernel, rfl, by decide +kernel, by decide +kernel⟩
abbrev s_law_right : Stmt := top 27
theorem cs_law_right : FnScope ["_law_pot_here", "_law_drawn", "_law_pairs", "_law_some", "_law_at", "_law_one", "_law_two", "_law_three", "_law_whole", "_law_rules", "_law_turn", "_law_top", "_law_bottom", "_law_told", "_law_pair"] ["_law_pot_here"] (defScope s_law_right) := ⟨rfl, rfl, rfl, by decide +kernel, rfl, by decide +kernel, by decide +kernel⟩
abbrev s_law : Stmt := top 28
theorem cs_law : FnScope ["_law_script", "_law_k"] ["_law_script"] (defScope s_law) := ⟨rfl, rfl, rfl, by decide +kernel, rfl, by decide +kernel, by decide +kernel⟩
end Dn
end

section
set_option Elab.async false
set_option linter.all false
set_option maxRecDepth 100000
set_option maxHeartbeats 2000000
namespace Dn
open PySem PySem.Spec L2
/-! ### facts of the text -/
/-- no name of the module hides these built-ins -/
structure Bi (mg : Str → Option Value) : Prop where
  isi : mg "isinstance" = none
  int : mg "int" = none
  bool : mg "bool" = none
  abs : mg "abs" = none
  str : mg "str" = none
  list : mg "list" = none
  tuple : mg "tuple" = none
/-- the class of ratios -/
structure Rc (K : PySem.W.Frag) (mg : Str → Option Value) (C : Addr) : Prop where
  cl : Cls K C
  nT : NoAttr K C "own_top"
  nB : NoAttr K C "own_bottom"
  at_ : mg "Ratio" = some (.ref C)
  ca : PySem.W.findIn K (.ref C) "__class__" = some (some (.builtin "object.__class__"))
  cn : PySem.W.specialIn K (.builtin "object.__class__") "__get__" = some (some (.builtin "getset_descriptor.__get__"))
  ct : PySem.W.takesIn K (.builtin "object.__class__") = some true
  cm : PySem.W.mroIn K C (.type "object") = some true
  oi : PySem.W.kitOne K (.ref C) (.type "int") = some false
  oo : PySem.W.kitOne K (.ref C) (.ref C) = some true
  io : PySem.W.kitOne K (.type "int") (.ref C) = some false
  ii : PySem.W.kitOne K (.type "int") (.type "int") = some true
  ib : PySem.W.kitOne K (.type "int") (.type "bool") = some false
theorem Rc.ty {K : PySem.W.Frag} {mg : Str → Option Value} {C : Addr} (R : Rc K mg C) (fs : List (Str × D)) : TyD K (.obj C fs) (.ref C) := .obj fs R.cl R.ca R.cn R.ct R.cm
/-- a number: a ratio, or an int -/
inductive Num (C : Addr) : D → Rat → Prop where
  | q (x : Rat) : Num C (qD C x) x
  | i (n : Int) : Num C (.int n) (n : Rat)
theorem ptd_eq {X : Cx} {e : Expr} {ρ ρ1 : Rho} {k k' : Bool} (h : PTD X e ρ k ρ1) (q : k = k') : PTD X e ρ k' ρ1 := q ▸ h
theorem ptd_notF {X : Cx} {e : Expr} {ρ ρ1 : Rho} {pos : Pos} (h : PTD X e ρ true ρ1) : PTD X (.UnaryOp .Not e pos) ρ false ρ1 := ptd_not h
theorem ptd_notT {X : Cx} {e : Expr} {ρ ρ1 : Rho} {pos : Pos} (h : PTD X e ρ false ρ1) : PTD X (.UnaryOp .Not e pos) ρ true ρ1 := ptd_not h
/-- x, y = e of one pair -/
theorem ps1_two {X : Cx} {bi : Bool} {ρ ρ1 : Rho} {k : Kn} {x y : Str} {px py pt pos : Pos} {kt : Nat} {e : Expr} {d d' : D} (i j : Nat) (hN : X.N.Nodup) (he : PD X e ρ (.val (.tup [d, d'])) ρ1) (hk : k.nx ((ρ1.set i (.val d)).set j (.val d')) := by rfl) (hc : X.calm = true := by rfl) (hi : X.N[i]? = some x := by rfl) (hj : X.N[j]? = some y := by rfl)
    (hx : Loc X.env.scope x := by first | exact Or.inl rfl | exact Or.inr rfl) (hy : Loc X.env.scope y := by first | exact Or.inl rfl | exact Or.inr rfl) (hio : i ≠ 0 ∨ bi = false := by first | exact Or.inl (by decide) | exact Or.inr rfl) (hjo : j ≠ 0 ∨ bi = false := by first | exact Or.inl (by decide) | exact Or.inr rfl)
    (hxf : X.fn x = true ∨ X.env.scope.names.lookup x = some .local := by first | exact .inl rfl | exact .inr rfl) (hyf : X.fn y = true ∨ X.env.scope.names.lookup y = some .local := by first | exact .inl rfl | exact .inr rfl) (hs : swapsWithSole [.Tuple [.Name x px, .Name y py] kt pt] e pos.line X.env = pure false := by rfl) (hw : swappedStores [.Tuple [.Name x px, .Name y py] kt pt] e X.env = pure none := by rfl) : PS1 X bi (.Assign [.Tuple [.Name x px, .Name y py] kt pt] e pos) ρ k :=
  ps1_asg he (pgd_tup hc (pgd_cons (pgd_name i hN hi hx hio hxf) (pgd_cons (pgd_name j hN hj hy hjo hyf) pgd_nil))) ⟨_, .inl rfl, rfl, _, _, _, rfl, rfl, _, _, _, rfl, rfl, rfl, rfl⟩ hk hs hw
theorem num_ne {y : Rat} (h : y ≠ 0) : y.num ≠ 0 := fun e => h (Rat.num_eq_zero.mp e)
theorem of_subr (x y : Rat) : Rat.divInt (y.num * x.den - x.num * y.den) (x.den * y.den) = y - x := by rw [Int.mul_comm (x.den : Int), of_sub]
section
variable {P : Program} {w : World} {K : PySem.W.Frag} {mg : Str → Option Value} {base : Heap} {f C : Addr} {fd : FuncData}
def S_is_integer (C : Addr) : List D → Res → Prop := fun ds r => ∃ d x, ds = [d] ∧ Num C d x ∧ r = .val (.bl (match d with | .int _ => true | _ => false))
theorem ok_is_integer (F : FunG K "is_integer" "is_integer" s_is_integer f fd) (B : Bi mg) (R : Rc K mg C) : FnB false P w K mg base 1 f fd ["value"] (spD K (S_is_integer C)) := by
  refine fnD F cs_is_integer (fun ds r ⟨_, _, h, _⟩ => by rw [h]; rfl) (fun cdv A outer s H hr nog ds r h => ?_)
  obtain ⟨d, x, rfl, hn, rfl⟩ := h
  cases hn with
  | q x =>
    refine psd_ret (pd_and (k := false) (l := false) (pd_callB (cd_isi (R.ty _) (.ty _) R.oi) B.isi (pad_cons (pd_var 0) (pad_cons (pd_ty B.int) pad_nil))) fun z => nomatch z) rfl
  | i n =>
    refine psd_ret (pd_and (pd_callB (cd_isi (.int _) (.ty _) R.ii) B.isi (pad_cons (pd_var 0) (pad_cons (pd_ty B.int) pad_nil))) fun _ => pd_one (pd_not (pd_callB (cd_isi (.int _) (.ty _) R.ib) B.isi (pad_cons (pd_var 0) (pad_cons (pd_ty B.bool) pad_nil))))) rfl
def S_common_part : List D → Res → Prop := fun ds r => ∃ i j : Int, ds = [.int i, .int j] ∧ r = .val (.int ((Nat.gcd i.natAbs j.natAbs : Nat) : Int))
theorem ok_common_part (F : FunG K "common_part" "common_part" s_common_part f fd) (hg : mg "gcd" = some (.builtin "math.gcd")) : FnB false P w K mg base 1 f fd ["one", "other"] (spD K S_common_part) := by
  refine fnD F cs_common_part (fun ds r ⟨_, _, h, _⟩ => by rw [h]; rfl) (fun cdv A outer s H hr nog ds r h => ?_)
  obtain ⟨i, j, rfl, rfl⟩ := h
  exact psd_ret (pd_callG cd_gcd hg (pad_cons (pd_var 0) (pad_cons (pd_var 1) pad_nil))) rfl
def T_init (C : Addr) : D → List D → Res → D → Prop := fun c ds r c' => ∃ t b : Int, c = .obj C [] ∧ ds = [.int t, .int b] ∧ b ≠ 0 ∧ Bd 8000 b ∧ r = .val .non ∧ c' = qD C (Rat.divInt t b)
theorem ok_Ratio_init (F : FunG K "__init__" "Ratio.__init__" s_Ratio_init f fd) (R : Rc K mg C) (c1 : Cal false P w K mg base 1 "is_integer" (spD K (S_is_integer C)) []) (c2 : Cal false P w K mg base 1 "common_part" (spD K S_common_part) []) : FnB false P w K mg base 2 f fd ["self", "top", "bottom"] (spIO K (T_init C)) := by
  refine fnIO F cs_Ratio_init (fun c ds r c' ⟨_, _, _, h, _⟩ => by rw [h]; rfl) (fun cdv A outer s H hr nog c ds r c' h => ?_)
  obtain ⟨t, b, rfl, rfl, hb, hz, rfl, rfl⟩ := h
  obtain ⟨e1, e2⟩ := low_both t b hb
  have cd := fun i => (sgcd_bd (t := t) hb hz).cdiv i (sgcd_ne hb)
  have nd := cs_Ratio_init.nd
  refine psd_skip (ptd_notF (ptd_bl (pd_call c1 hr (pad_cons (pd_var 1) pad_nil) ⟨_, _, rfl, .i t, rfl⟩))) ?_
  refine psd_skip (ptd_eq (pwd_or (ptd_notF (ptd_bl (pd_call c1 hr (pad_cons (pd_var 2) pad_nil) ⟨_, _, rfl, .i b, rfl⟩))) fun _ => pwd_or1 (ptd_cmp (pd_var 2) pd_int bd_eqI rfl)).pt (by simpa using hb)) ?_
  refine psd_st (ps1_set 3 nd (pd_call c2 hr (pad_cons (pd_var 1) (pad_cons (pd_var 2) pad_nil)) ⟨_, _, rfl, rfl⟩)) ?_
  by_cases n : b < 0
  · have hs : sgcd t b = 0 - ((Nat.gcd t.natAbs b.natAbs : Nat) : Int) := if_pos n
    rw [hs] at cd e1 e2
    refine psd_ifT (ptd_eq (ptd_cmp (pd_var 2) pd_int bd_lt rfl) (decide_eq_true n)) (psd_st (ps1_set 3 nd (pd_bin pd_int (pd_var 3) bd_sub)) (psd_nil ?_))
    refine psd_st (ps1_fld 0 R.cl R.nT (pd_bin (pd_var 1) (pd_var 3) (bd_divA (cd _)))) (psd_st (ps1_fld 0 R.cl R.nB (pd_bin (pd_var 2) (pd_var 3) (bd_divA (cd _)))) (psd_nil ⟨rfl, ?_⟩))
    rw [qD, ← e1, ← e2]
    rfl
  · have hs : sgcd t b = ((Nat.gcd t.natAbs b.natAbs : Nat) : Int) := if_neg n
    rw [hs] at cd e1 e2
    refine psd_skip (ptd_eq (ptd_cmp (pd_var 2) pd_int bd_lt rfl) (decide_eq_false n)) ?_
    refine psd_st (ps1_fld 0 R.cl R.nT (pd_bin (pd_var 1) (pd_var 3) (bd_divA (cd _)))) (psd_st (ps1_fld 0 R.cl R.nB (pd_bin (pd_var 2) (pd_var 3) (bd_divA (cd _)))) (psd_nil ⟨rfl, ?_⟩))
    rw [qD, ← e1, ← e2]
    rfl
def S_told_pair (C : Addr) : List D → Res → Prop := fun ds r => ∃ d x, ds = [d] ∧ Num C d x ∧ r = .val (qP x)
theorem qP_int (n : Int) : qP (n : Rat) = .tup [.int n, .int 1] := by simp [qP]
theorem ok_told_pair (F : FunG K "told_pair" "told_pair" s_told_pair f fd) (B : Bi mg) (R : Rc K mg C) (c1 : Cal false P w K mg base 1 "is_integer" (spD K (S_is_integer C)) []) : FnB false P w K mg base 2 f fd ["value"] (spD K (S_told_pair C)) := by
  refine fnD F cs_told_pair (fun ds r ⟨_, _, h, _⟩ => by rw [h]; rfl) (fun cdv A outer s H hr nog ds r h => ?_)
  obtain ⟨d, x, rfl, hn, rfl⟩ := h
  cases hn with
  | q x =>
    refine psd_ifT (ptd_bl (pd_callB (cd_isi (R.ty _) (.own C) R.oo) B.isi (pad_cons (pd_var 0) (pad_cons (pd_glob R.at_) pad_nil)))) (psd_ret (pd_tup (pad_cons (pd_fld (pd_var 0) R.cl R.nT rfl) (pad_cons (pd_fld (pd_var 0) R.cl R.nB rfl) pad_nil))) rfl)
  | i n =>
    refine psd_skip (ptd_bl (pd_callB (cd_isi (.int n) (.own C) R.io) B.isi (pad_cons (pd_var 0) (pad_cons (pd_glob R.at_) pad_nil)))) ?_
    refine psd_skip (ptd_notF (ptd_bl (pd_call c1 hr (pad_cons (pd_var 0) pad_nil) ⟨_, _, rfl, .i n, rfl⟩))) ?_
    rw [qP_int]
    exact psd_ret (pd_tup (pad_cons (pd_var 0) (pad_cons pd_int pad_nil))) rfl
/-- an operator of a ratio and a number -/
def S_op (C : Addr) (c : Rat → Rat → Prop) (g : Rat → Rat → Rat) : List D → Res → Prop := fun ds r => ∃ x d y, ds = [qD C x, d] ∧ Num C d y ∧ Sz 900 x ∧ Sz 900 y ∧ c x y ∧ r = .own (qD C (g x y))
theorem ok_Ratio_add (F : FunG K "__add__" "Ratio.__add__" s_Ratio_add f fd) (R : Rc K mg C) (c1 : Cal false P w K mg base 2 "told_pair" (spD K (S_told_pair C)) []) (mk : Mak P w K mg base 2 "Ratio" C (spIO K (T_init C)) []) : FnB false P w K mg base 4 f fd ["self", "other"] (spD K (S_op C (fun x y => True) fun x y => x + y)) := by
  refine fnD F cs_Ratio_add (fun ds r ⟨_, _, _, h, _⟩ => by rw [h]; rfl) (fun cdv A outer s H hr nog ds r h => ?_)
  obtain ⟨x, d, y, rfl, hn, hx, hy, hc, rfl⟩ := h
  refine psd_st (ps1_two 2 3 cs_Ratio_add.nd (pd_call c1 hr (pad_cons (pd_var 1) pad_nil) ⟨_, _, rfl, hn, rfl⟩)) ?_
  refine psd_ret (pd_make mk hr (pad_cons (pd_bin (pd_bin (pd_fld (pd_var 0) R.cl R.nT rfl) (pd_var 3) (bd_mul (hx.1.cmul hy.2))) (pd_bin (pd_var 2) (pd_fld (pd_var 0) R.cl R.nB rfl) (bd_mul (hy.1.cmul hx.2))) bd_add) (pad_cons (pd_bin (pd_fld (pd_var 0) R.cl R.nB rfl) (pd_var 3) (bd_mul (hx.2.cmul hy.2))) pad_nil)) ⟨_, _, rfl, rfl, mul_ne (den_ne x) (den_ne y), Bd.mono (hx.2.mul hy.2) (by decide), rfl, rfl⟩) ?_
  exact congrArg (fun q => Res.own (qD C q)) (of_add x y)
theorem ok_Ratio_radd (F : FunG K "__radd__" "Ratio.__radd__" s_Ratio_radd f fd) (R : Rc K mg C) (c1 : Cal false P w K mg base 2 "told_pair" (spD K (S_told_pair C)) []) (mk : Mak P w K mg base 2 "Ratio" C (spIO K (T_init C)) []) : FnB false P w K mg base 4 f fd ["self", "other"] (spD K (S_op C (fun x y => True) fun x y => x + y)) := by
  refine fnD F cs_Ratio_radd (fun ds r ⟨_, _, _, h, _⟩ => by rw [h]; rfl) (fun cdv A outer s H hr nog ds r h => ?_)
  obtain ⟨x, d, y, rfl, hn, hx, hy, hc, rfl⟩ := h
  refine psd_st (ps1_two 2 3 cs_Ratio_radd.nd (pd_call c1 hr (pad_cons (pd_var 1) pad_nil) ⟨_, _, rfl, hn, rfl⟩)) ?_
  refine psd_ret (pd_make mk hr (pad_cons (pd_bin (pd_bin (pd_fld (pd_var 0) R.cl R.nT rfl) (pd_var 3) (bd_mul (hx.1.cmul hy.2))) (pd_bin (pd_var 2) (pd_fld (pd_var 0) R.cl R.nB rfl) (bd_mul (hy.1.cmul hx.2))) bd_add) (pad_cons (pd_bin (pd_fld (pd_var 0) R.cl R.nB rfl) (pd_var 3) (bd_mul (hx.2.cmul hy.2))) pad_nil)) ⟨_, _, rfl, rfl, mul_ne (den_ne x) (den_ne y), Bd.mono (hx.2.mul hy.2) (by decide), rfl, rfl⟩) ?_
  exact congrArg (fun q => Res.own (qD C q)) (of_add x y)
theorem ok_Ratio_sub (F : FunG K "__sub__" "Ratio.__sub__" s_Ratio_sub f fd) (R : Rc K mg C) (c1 : Cal false P w K mg base 2 "told_pair" (spD K (S_told_pair C)) []) (mk : Mak P w K mg base 2 "Ratio" C (spIO K (T_init C)) []) : FnB false P w K mg base 4 f fd ["self", "other"] (spD K (S_op C (fun x y => True) fun x y => x - y)) := by
  refine fnD F cs_Ratio_sub (fun ds r ⟨_, _, _, h, _⟩ => by rw [h]; rfl) (fun cdv A outer s H hr nog ds r h => ?_)
  obtain ⟨x, d, y, rfl, hn, hx, hy, hc, rfl⟩ := h
  refine psd_st (ps1_two 2 3 cs_Ratio_sub.nd (pd_call c1 hr (pad_cons (pd_var 1) pad_nil) ⟨_, _, rfl, hn, rfl⟩)) ?_
  refine psd_ret (pd_make mk hr (pad_cons (pd_bin (pd_bin (pd_fld (pd_var 0) R.cl R.nT rfl) (pd_var 3) (bd_mul (hx.1.cmul hy.2))) (pd_bin (pd_var 2) (pd_fld (pd_var 0) R.cl R.nB rfl) (bd_mul (hy.1.cmul hx.2))) bd_sub) (pad_cons (pd_bin (pd_fld (pd_var 0) R.cl R.nB rfl) (pd_var 3) (bd_mul (hx.2.cmul hy.2))) pad_nil)) ⟨_, _, rfl, rfl, mul_ne (den_ne x) (den_ne y), Bd.mono (hx.2.mul hy.2) (by decide), rfl, rfl⟩) ?_
  exact congrArg (fun q => Res.own (qD C q)) (of_sub x y)
theorem ok_Ratio_rsub (F : FunG K "__rsub__" "Ratio.__rsub__" s_Ratio_rsub f fd) (R : Rc K mg C) (c1 : Cal false P w K mg base 2 "told_pair" (spD K (S_told_pair C)) []) (mk : Mak P w K mg base 2 "Ratio" C (spIO K (T_init C)) []) : FnB false P w K mg base 4 f fd ["self", "other"] (spD K (S_op C (fun x y => True) fun x y => y - x)) := by
  refine fnD F cs_Ratio_rsub (fun ds r ⟨_, _, _, h, _⟩ => by rw [h]; rfl) (fun cdv A outer s H hr nog ds r h => ?_)
  obtain ⟨x, d, y, rfl, hn, hx, hy, hc, rfl⟩ := h
  refine psd_st (ps1_two 2 3 cs_Ratio_rsub.nd (pd_call c1 hr (pad_cons (pd_var 1) pad_nil) ⟨_, _, rfl, hn, rfl⟩)) ?_
  refine psd_ret (pd_make mk hr (pad_cons (pd_bin (pd_bin (pd_var 2) (pd_fld (pd_var 0) R.cl R.nB rfl) (bd_mul (hy.1.cmul hx.2))) (pd_bin (pd_fld (pd_var 0) R.cl R.nT rfl) (pd_var 3) (bd_mul (hx.1.cmul hy.2))) bd_sub) (pad_cons (pd_bin (pd_fld (pd_var 0) R.cl R.nB rfl) (pd_var 3) (bd_mul (hx.2.cmul hy.2))) pad_nil)) ⟨_, _, rfl, rfl, mul_ne (den_ne x) (den_ne y), Bd.mono (hx.2.mul hy.2) (by decide), rfl, rfl⟩) ?_
  exact congrArg (fun q => Res.own (qD C q)) (of_subr x y)
theorem ok_Ratio_mul (F : FunG K "__mul__" "Ratio.__mul__" s_Ratio_mul f fd) (R : Rc K mg C) (c1 : Cal false P w K mg base 2 "told_pair" (spD K (S_told_pair C)) []) (mk : Mak P w K mg base 2 "Ratio" C (spIO K (T_init C)) []) : FnB false P w K mg base 4 f fd ["self", "other"] (spD K (S_op C (fun x y => True) fun x y => x * y)) := by
  refine fnD F cs_Ratio_mul (fun ds r ⟨_, _, _, h, _⟩ => by rw [h]; rfl) (fun cdv A outer s H hr nog ds r h => ?_)
  obtain ⟨x, d, y, rfl, hn, hx, hy, hc, rfl⟩ := h
  refine psd_st (ps1_two 2 3 cs_Ratio_mul.nd (pd_call c1 hr (pad_cons (pd_var 1) pad_nil) ⟨_, _, rfl, hn, rfl⟩)) ?_
  refine psd_ret (pd_make mk hr (pad_cons (pd_bin (pd_fld (pd_var 0) R.cl R.nT rfl) (pd_var 2) (bd_mul (hx.1.cmul hy.1))) (pad_cons (pd_bin (pd_fld (pd_var 0) R.cl R.nB rfl) (pd_var 3) (bd_mul (hx.2.cmul hy.2))) pad_nil)) ⟨_, _, rfl, rfl, mul_ne (den_ne x) (den_ne y), Bd.mono (hx.2.mul hy.2) (by decide), rfl, rfl⟩) ?_
  exact congrArg (fun q => Res.own (qD C q)) (of_mul x y)
theorem ok_Ratio_rmul (F : FunG K "__rmul__" "Ratio.__rmul__" s_Ratio_rmul f fd) (R : Rc K mg C) (c1 : Cal false P w K mg base 2 "told_pair" (spD K (S_told_pair C)) []) (mk : Mak P w K mg base 2 "Ratio" C (spIO K (T_init C)) []) : FnB false P w K mg base 4 f fd ["self", "other"] (spD K (S_op C (fun x y => True) fun x y => x * y)) := by
  refine fnD F cs_Ratio_rmul (fun ds r ⟨_, _, _, h, _⟩ => by rw [h]; rfl) (fun cdv A outer s H hr nog ds r h => ?_)
  obtain ⟨x, d, y, rfl, hn, hx, hy, hc, rfl⟩ := h
  refine psd_st (ps1_two 2 3 cs_Ratio_rmul.nd (pd_call c1 hr (pad_cons (pd_var 1) pad_nil) ⟨_, _, rfl, hn, rfl⟩)) ?_
  refine psd_ret (pd_make mk hr (pad_cons (pd_bin (pd_fld (pd_var 0) R.cl R.nT rfl) (pd_var 2) (bd_mul (hx.1.cmul hy.1))) (pad_cons (pd_bin (pd_fld (pd_var 0) R.cl R.nB rfl) (pd_var 3) (bd_mul (hx.2.cmul hy.2))) pad_nil)) ⟨_, _, rfl, rfl, mul_ne (den_ne x) (den_ne y), Bd.mono (hx.2.mul hy.2) (by decide), rfl, rfl⟩) ?_
  exact congrArg (fun q => Res.own (qD C q)) (of_mul x y)
theorem ok_Ratio_over (F : FunG K "over" "Ratio.over" s_Ratio_over f fd) (R : Rc K mg C) (c1 : Cal false P w K mg base 2 "told_pair" (spD K (S_told_pair C)) []) (mk : Mak P w K mg base 2 "Ratio" C (spIO K (T_init C)) []) : FnB false P w K mg base 4 f fd ["self", "other"] (spD K (S_op C (fun x y => y ≠ 0) fun x y => x / y)) := by
  refine fnD F cs_Ratio_over (fun ds r ⟨_, _, _, h, _⟩ => by rw [h]; rfl) (fun cdv A outer s H hr nog ds r h => ?_)
  obtain ⟨x, d, y, rfl, hn, hx, hy, hc, rfl⟩ := h
  refine psd_st (ps1_two 2 3 cs_Ratio_over.nd (pd_call c1 hr (pad_cons (pd_var 1) pad_nil) ⟨_, _, rfl, hn, rfl⟩)) ?_
  refine psd_skip (ptd_eq (ptd_cmp (pd_var 2) pd_int bd_eqI rfl) (decide_eq_false (num_ne hc))) ?_
  refine psd_ret (pd_make mk hr (pad_cons (pd_bin (pd_fld (pd_var 0) R.cl R.nT rfl) (pd_var 3) (bd_mul (hx.1.cmul hy.2))) (pad_cons (pd_bin (pd_fld (pd_var 0) R.cl R.nB rfl) (pd_var 2) (bd_mul (hx.2.cmul hy.1))) pad_nil)) ⟨_, _, rfl, rfl, mul_ne (den_ne x) (num_ne hc), Bd.mono (hx.2.mul hy.1) (by decide), rfl, rfl⟩) ?_
  exact congrArg (fun q => Res.own (qD C q)) (of_div x y)
def S_un (C : Addr) (g : Rat → Rat) : List D → Res → Prop := fun ds r => ∃ x, ds = [qD C x] ∧ Sz 900 x ∧ r = .own (qD C (g x))
theorem ok_Ratio_neg (F : FunG K "__neg__" "Ratio.__neg__" s_Ratio_neg f fd) (R : Rc K mg C) (mk : Mak P w K mg base 2 "Ratio" C (spIO K (T_init C)) []) : FnB false P w K mg base 4 f fd ["self"] (spD K (S_un C fun x => -x)) := by
  refine fnD F cs_Ratio_neg (fun ds r ⟨_, h, _⟩ => by rw [h]; rfl) (fun cdv A outer s H hr nog ds r h => ?_)
  obtain ⟨x, rfl, hx, rfl⟩ := h
  refine psd_ret (pd_make mk hr (pad_cons (pd_bin pd_int (pd_fld (pd_var 0) R.cl R.nT rfl) bd_sub) (pad_cons (pd_fld (pd_var 0) R.cl R.nB rfl) pad_nil)) ⟨_, _, rfl, rfl, den_ne x, hx.2.mono (by decide), rfl, rfl⟩) ?_
  exact congrArg (fun q => Res.own (qD C q)) (of_neg x)
def qabs (x : Rat) : Rat := if x.num < 0 then -x else x
theorem of_abs (x : Rat) : Rat.divInt (if x.num < 0 then -x.num else x.num) x.den = qabs x := by
  unfold qabs
  split
  · rw [← of_neg, Int.zero_sub]
  · exact Rat.num_divInt_den x
theorem ok_Ratio_size (F : FunG K "size" "Ratio.size" s_Ratio_size f fd) (B : Bi mg) (R : Rc K mg C) (mk : Mak P w K mg base 2 "Ratio" C (spIO K (T_init C)) []) : FnB false P w K mg base 4 f fd ["self"] (spD K (S_un C qabs)) := by
  refine fnD F cs_Ratio_size (fun ds r ⟨_, h, _⟩ => by rw [h]; rfl) (fun cdv A outer s H hr nog ds r h => ?_)
  obtain ⟨x, rfl, hx, rfl⟩ := h
  refine psd_ret (pd_make mk hr (pad_cons (pd_callB cd_abs B.abs (pad_cons (pd_fld (pd_var 0) R.cl R.nT rfl) pad_nil)) (pad_cons (pd_fld (pd_var 0) R.cl R.nB rfl) pad_nil)) ⟨_, _, rfl, rfl, den_ne x, hx.2.mono (by decide), rfl, rfl⟩) ?_
  exact congrArg (fun q => Res.own (qD C q)) (of_abs x)
/-- an order's question -/
def S_ask (C : Addr) (g : Rat → Rat → Bool) : List D → Res → Prop := fun ds r => ∃ x d y, ds = [qD C x, d] ∧ Num C d y ∧ Sz 900 x ∧ Sz 900 y ∧ r = .val (.bl (g x y))
theorem ok_Ratio_is_below (F : FunG K "is_below" "Ratio.is_below" s_Ratio_is_below f fd) (R : Rc K mg C) (c1 : Cal false P w K mg base 2 "told_pair" (spD K (S_told_pair C)) []) : FnB false P w K mg base 3 f fd ["self", "other"] (spD K (S_ask C fun x y => decide (x < y))) := by
  refine fnD F cs_Ratio_is_below (fun ds r ⟨_, _, _, h, _⟩ => by rw [h]; rfl) (fun cdv A outer s H hr nog ds r h => ?_)
  obtain ⟨x, d, y, rfl, hn, hx, hy, rfl⟩ := h
  refine psd_st (ps1_two 2 3 cs_Ratio_is_below.nd (pd_call c1 hr (pad_cons (pd_var 1) pad_nil) ⟨_, _, rfl, hn, rfl⟩)) ?_
  refine psd_ret (pd_cmp (pd_bin (pd_fld (pd_var 0) R.cl R.nT rfl) (pd_var 3) (bd_mul (hx.1.cmul hy.2))) (pd_bin (pd_var 2) (pd_fld (pd_var 0) R.cl R.nB rfl) (bd_mul (hy.1.cmul hx.2))) bd_lt rfl) ?_
  exact congrArg (fun q => Res.val (D.bl q)) q_lt
theorem ok_Ratio_is_at_most (F : FunG K "is_at_most" "Ratio.is_at_most" s_Ratio_is_at_most f fd) (R : Rc K mg C) (c1 : Cal false P w K mg base 2 "told_pair" (spD K (S_told_pair C)) []) : FnB false P w K mg base 3 f fd ["self", "other"] (spD K (S_ask C fun x y => decide (x ≤ y))) := by
  refine fnD F cs_Ratio_is_at_most (fun ds r ⟨_, _, _, h, _⟩ => by rw [h]; rfl) (fun cdv A outer s H hr nog ds r h => ?_)
  obtain ⟨x, d, y, rfl, hn, hx, hy, rfl⟩ := h
  refine psd_st (ps1_two 2 3 cs_Ratio_is_at_most.nd (pd_call c1 hr (pad_cons (pd_var 1) pad_nil) ⟨_, _, rfl, hn, rfl⟩)) ?_
  refine psd_ret (pd_cmp (pd_bin (pd_fld (pd_var 0) R.cl R.nT rfl) (pd_var 3) (bd_mul (hx.1.cmul hy.2))) (pd_bin (pd_var 2) (pd_fld (pd_var 0) R.cl R.nB rfl) (bd_mul (hy.1.cmul hx.2))) bd_le rfl) ?_
  exact congrArg (fun q => Res.val (D.bl q)) q_le
/-- x == d: of a ratio, or of what is none -/
def S_eq (K : PySem.W.Frag) (C : Addr) : List D → Res → Prop := fun ds r => ∃ x d b, ds = [qD C x, d] ∧ r = .val (.bl b) ∧ ((∃ y, d = qD C y ∧ b = decide (x = y)) ∨ (b = false ∧ ∃ t, TyD K d t ∧ PySem.W.kitOne K t (.ref C) = some false))
theorem ok_Ratio_eq (F : FunG K "__eq__" "Ratio.__eq__" s_Ratio_eq f fd) (B : Bi mg) (R : Rc K mg C) : FnB false P w K mg base 1 f fd ["self", "other"] (spD K (S_eq K C)) := by
  refine fnD F cs_Ratio_eq (fun ds r ⟨_, _, _, h, _⟩ => by rw [h]; rfl) (fun cdv A outer s H hr nog ds r h => ?_)
  obtain ⟨x, d, b, rfl, rfl, ⟨y, rfl, rfl⟩ | ⟨rfl, t, ht, hk⟩⟩ := h
  · refine psd_skip (ptd_notF (ptd_bl (pd_callB (cd_isi (R.ty _) (.own C) R.oo) B.isi (pad_cons (pd_var 1) (pad_cons (pd_glob R.at_) pad_nil))))) ?_
    refine psd_ret (pd_and (pd_cmp (pd_fld (pd_var 0) R.cl R.nT rfl) (pd_fld (pd_var 1) R.cl R.nT rfl) bd_eqI rfl) fun _ => pd_one (pd_cmp (pd_fld (pd_var 0) R.cl R.nB rfl) (pd_fld (pd_var 1) R.cl R.nB rfl) bd_eqI rfl)) ?_
    exact congrArg (fun q => Res.val (D.bl q)) q_eq
  · exact psd_ifT (ptd_notT (ptd_bl (pd_callB (cd_isi ht (.own C) hk) B.isi (pad_cons (pd_var 1) (pad_cons (pd_glob R.at_) pad_nil))))) (psd_ret pd_bl rfl)
def S_get (C : Addr) (g : Rat → D) : List D → Res → Prop := fun ds r => ∃ x, ds = [qD C x] ∧ r = .val (g x)
theorem ok_Ratio_top (F : FunG K "top" "Ratio.top" s_Ratio_top f fd) (R : Rc K mg C) : FnB false P w K mg base 1 f fd ["self"] (spD K (S_get C fun x => .int x.num)) := by
  refine fnD F cs_Ratio_top (fun ds r ⟨_, h, _⟩ => by rw [h]; rfl) (fun cdv A outer s H hr nog ds r h => ?_)
  obtain ⟨x, rfl, rfl⟩ := h
  exact psd_ret (pd_fld (pd_var 0) R.cl R.nT rfl) rfl
theorem ok_Ratio_bottom (F : FunG K "bottom" "Ratio.bottom" s_Ratio_bottom f fd) (R : Rc K mg C) : FnB false P w K mg base 1 f fd ["self"] (spD K (S_get C fun x => .int (x.den : Int))) := by
  refine fnD F cs_Ratio_bottom (fun ds r ⟨_, h, _⟩ => by rw [h]; rfl) (fun cdv A outer s H hr nog ds r h => ?_)
  obtain ⟨x, rfl, rfl⟩ := h
  exact psd_ret (pd_fld (pd_var 0) R.cl R.nB rfl) rfl
def qsgn (x : Rat) : Int := if x.num > 0 then 1 else if x.num < 0 then -1 else 0
theorem ok_Ratio_sign (F : FunG K "sign" "Ratio.sign" s_Ratio_sign f fd) (B : Bi mg) (R : Rc K mg C) : FnB false P w K mg base 1 f fd ["self"] (spD K (S_get C fun x => .int (qsgn x))) := by
  refine fnD F cs_Ratio_sign (fun ds r ⟨_, h, _⟩ => by rw [h]; rfl) (fun cdv A outer s H hr nog ds r h => ?_)
  obtain ⟨x, rfl, rfl⟩ := h
  refine psd_ret (pd_bin (pd_callTy cd_intB B.int (pad_cons (pd_cmp (pd_fld (pd_var 0) R.cl R.nT rfl) pd_int bd_gt rfl) pad_nil)) (pd_callTy cd_intB B.int (pad_cons (pd_cmp (pd_fld (pd_var 0) R.cl R.nT rfl) pd_int bd_lt rfl) pad_nil)) bd_sub) ?_
  refine congrArg (fun q => Res.val (D.int q)) ?_
  unfold qsgn
  by_cases h1 : 0 < x.num
  · rw [decide_eq_true h1, decide_eq_false (by omega), if_pos h1]; rfl
  · by_cases h2 : x.num < 0
    · rw [decide_eq_false h1, decide_eq_true h2, if_neg h1, if_pos h2]; rfl
    · rw [decide_eq_false h1, decide_eq_false h2, if_neg h1, if_neg h2]; rfl
theorem ok_Ratio_is_whole (F : FunG K "is_whole" "Ratio.is_whole" s_Ratio_is_whole f fd) (R : Rc K mg C) : FnB false P w K mg base 1 f fd ["self"] (spD K (S_get C fun x => .bl (decide ((x.den : Int) = 1)))) := by
  refine fnD F cs_Ratio_is_whole (fun ds r ⟨_, h, _⟩ => by rw [h]; rfl) (fun cdv A outer s H hr nog ds r h => ?_)
  obtain ⟨x, rfl, rfl⟩ := h
  exact psd_ret (pd_cmp (pd_fld (pd_var 0) R.cl R.nB rfl) pd_int bd_eqI rfl) rfl
/-! ### numbers wanted -/
def S_is_number (C : Addr) : List D → Res → Prop := fun ds r => ∃ d x, ds = [d] ∧ Num C d x ∧ r = .val (.bl true)
theorem ok_is_number (F : FunG K "is_number" "is_number" s_is_number f fd) (B : Bi mg) (R : Rc K mg C) (c1 : Cal false P w K mg base 1 "is_integer" (spD K (S_is_integer C)) []) : FnB false P w K mg base 2 f fd ["value"] (spD K (S_is_number C)) := by
  refine fnD F cs_is_number (fun ds r ⟨_, _, h, _⟩ => by rw [h]; rfl) (fun cdv A outer s H hr nog ds r h => ?_)
  obtain ⟨d, x, rfl, hn, rfl⟩ := h
  cases hn with
  | q x => exact psd_ret (pd_or (pd_call c1 hr (pad_cons (pd_var 0) pad_nil) ⟨_, _, rfl, .q x, rfl⟩) fun _ => pd_one (pd_callB (cd_isi (R.ty _) (.own C) R.oo) B.isi (pad_cons (pd_var 0) (pad_cons (pd_glob R.at_) pad_nil)))) rfl
  | i n => exact psd_ret (pd_or (l := false) (pd_call c1 hr (pad_cons (pd_var 0) pad_nil) ⟨_, _, rfl, .i n, rfl⟩) fun z => nomatch z) rfl
/-- a number in, the ratio out (as it stands, or new) -/
def S_want (C : Addr) : List D → Res → Prop := fun ds r => ∃ d x, ds = [d] ∧ Num C d x ∧ r = .val (qD C x)
end
end Dn
end

section
set_option Elab.async false
set_option linter.all false
set_option maxRecDepth 100000
set_option maxHeartbeats 2000000
namespace Dn
open PySem PySem.Spec L2
theorem lens2 {x y : Str} (h : x.length + y.length ≤ 1000000) : lensD Str.empty [x, y] := by
  have e : (Str.empty : Str).length = 0 := rfl
  refine ⟨?_, ?_, trivial⟩
  · rw [strLen_append, e]; omega
  · rw [strLen_append, strLen_append, e]; omega
theorem lens3 {x y z : Str} (h : x.length + y.length + z.length ≤ 1000000) : lensD Str.empty [x, y, z] := by
  have e : (Str.empty : Str).length = 0 := rfl
  refine ⟨?_, ?_, ?_, trivial⟩
  · rw [strLen_append, e]; omega
  · rw [strLen_append, strLen_append, e]; omega
  · rw [strLen_append, strLen_append, strLen_append, e]; omega
theorem str_assoc (a b c : Str) : (a ++ b) ++ c = a ++ (b ++ c) := by
  show Str.mk ((a.cps ++ b.cps) ++ c.cps) = Str.mk (a.cps ++ (b.cps ++ c.cps))
  rw [Array.append_assoc]
theorem sx_nil : (Str.empty : Str) = sx [] := rfl
section
variable {P : Program} {w : World} {K : PySem.W.Frag} {mg : Str → Option Value} {base : Heap} {f C : Addr} {fd : FuncData}
def S_digits : List D → Res → Prop := fun ds r => ∃ n : Int, ds = [.int n] ∧ Bd 1900 n ∧ r = .val (.str (Str.ofString (toString n)))
theorem ok_digits_of {t : Tok} (F : FunG K "digits_of" "digits_of" s_digits_of f fd) (B : Bi mg) (hP : mg "PART" = some (.int (10 ^ 60) t)) : FnB false P w K mg base 1 f fd ["number"] (spD K S_digits) := by
  refine fnD F cs_digits_of (fun ds r ⟨_, h, _⟩ => by rw [h]; rfl) (fun cdv A outer s H hr nog ds r h => ?_)
  obtain ⟨n, rfl, hz, rfl⟩ := h
  have nd := cs_digits_of.nd
  obtain ⟨m, hm⟩ : ∃ m : Nat, n.natAbs = m := ⟨_, rfl⟩
  have hbm : Bd 1900 (m : Int) := by rw [← hm]; exact hz
  have lm := dg_len (by decide) hbm
  refine psd_cons (fun ρ' => ρ' = [.val (.int n), .val (.int m), .val (.str (sx [])), .non, .non]) ?_ fun ρ' e => ?_
  · by_cases n0 : 0 ≤ n
    · obtain rfl : n = (m : Int) := by omega
      exact ps1_par 1 2 (pad_cons (pd_ifT (ptd_eq (ptd_cmp (pd_var 0) pd_int bd_ge rfl) (decide_eq_true n0)) (pd_var 0)) (pad_cons pd_str pad_nil)) nd
    · have e : (0 - n) = (m : Int) := by omega
      refine ps1_par 1 2 (pad_cons (pd_ifF (ptd_eq (ptd_cmp (pd_var 0) pd_int bd_ge rfl) (decide_eq_false n0)) (pd_bin pd_int (pd_var 0) bd_sub)) (pad_cons pd_str pad_nil)) nd ?_
      rw [e]
      rfl
  subst e
  refine psd_while (fun k ρ' => ∃ (l : Nat) (x : Str) (p : Sl), ρ' = [.val (.int n), .val (.int l), .val (.str x), p, .non] ∧ k = l ∧ l ≤ m ∧ sx (Nat.toDigits 10 l) ++ x = sx (Nat.toDigits 10 m)) m PassesOwn.never ⟨m, _, _, rfl, rfl, Nat.le_refl _, by rw [sx_app, List.append_nil]⟩ ?_
  rintro l ρ' ⟨_, x, p, rfl, rfl, hl, hx⟩
  have hbl : Bd 1900 (l : Int) := by unfold Bd at *; omega
  have ll := dg_len (by decide) hbl
  have lx : x.length ≤ 2000 := by
    have z := congrArg Str.length hx
    rw [strLen_append, sx_len, sx_len] at z
    omega
  refine ⟨_, _, ptd_cmp (pd_var 1) (pd_globI hP) bd_ge rfl, fun h => ?_, fun h => ?_⟩
  · have h : (10 : Int) ^ 60 ≤ (l : Int) := of_decide_eq_true h
    have h' : 10 ^ 60 ≤ l := by omega
    have ep : ((l : Int) % 10 ^ 60 + 10 ^ 60) = ((l % 10 ^ 60 + 10 ^ 60 : Nat) : Int) := by omega
    have bp : Bd 201 ((l : Int) % 10 ^ 60 + 10 ^ 60) := by unfold Bd; omega
    have e3 : (l : Int).fdiv (10 ^ 60) = ((l / 10 ^ 60 : Nat) : Int) := by
      rw [Int.fdiv_eq_ediv_of_nonneg _ (by decide)]
      omega
    have lp := dg_len (n := l % 10 ^ 60 + 10 ^ 60) (k := 201) (by decide) (by rw [← ep]; exact bp)
    have es : Str.ofString (toString ((l : Int) % 10 ^ 60 + 10 ^ 60)) = sx (Nat.toDigits 10 (l % 10 ^ 60 + 10 ^ 60)) := by rw [ep, str_nat]
    have ec := cut1 _ (dg_nil (l % 10 ^ 60 + 10 ^ 60))
    have lc : (cutS (sx (Nat.toDigits 10 (l % 10 ^ 60 + 10 ^ 60))) (some 1) none).length ≤ 2000 := by
      rw [ec, sx_len, List.length_drop]
      omega
    refine psd_st (ps1_set 3 nd (pd_bin (pd_bin (pd_callTy cd_int B.int (pad_cons (pd_var 1) pad_nil)) (pd_globI hP) (bd_mod (by decide))) (pd_globI hP) bd_add)) ?_
    refine psd_st (ps1_set 2 nd (pd_js (.cons (pd_fmtS (pd_sliceS (pd_callTy (cd_strI (bp.log (m := 1920) (by decide))) B.str (pad_cons (pd_var 3) pad_nil)) (pod_some pd_int) pod_none (by rw [es, sx_len]; omega)) (by rw [es]; omega)) (.cons (pd_fmtS (pd_var 2) (by omega)) .nil)) (lens2 (by rw [es]; omega)))) ?_
    refine psd_st (ps1_set 1 nd (pd_bin (pd_var 1) (pd_globI hP) (bd_divA ⟨by decide, by decide⟩))) ?_
    refine psd_nil ⟨l / 10 ^ 60, Nat.div_lt_self (by omega) (by decide), l / 10 ^ 60, joinD Str.empty [cutS (Str.ofString (toString ((l : Int) % 10 ^ 60 + 10 ^ 60))) (some 1) none, x], .val (.int ((l : Int) % 10 ^ 60 + 10 ^ 60)), ?_, rfl, Nat.le_trans (Nat.div_le_self _ _) hl, ?_⟩
    · rw [e3]; rfl
    · show _ ++ ((Str.empty ++ _) ++ x) = _
      rw [es, ec, sx_nil, ← hx, dg_split 60 l h', ← sx_app, sx_app [], List.nil_append, str_assoc]
  · have e0 : Str.ofString (toString (l : Int)) = sx (Nat.toDigits 10 l) := str_nat l
    by_cases n0 : n < 0
    · refine psd_st (ps1_set 4 nd (pd_ifT (ptd_eq (ptd_cmp (pd_var 0) pd_int bd_lt rfl) (decide_eq_true n0)) pd_str)) ?_
      refine psd_ret (pd_js (.cons (pd_fmtS (pd_var 4) (by decide)) (.cons (pd_fmtI (pd_var 1) (hbl.log (m := 1920) (by decide))) (.cons (pd_fmtS (pd_var 2) (by omega)) .nil))) (lens3 (by rw [e0, sx_len]; show 1 + _ + _ ≤ _; omega))) ?_
      refine congrArg (fun q => Res.val (D.str q)) ?_
      show ((Str.empty ++ _) ++ _) ++ x = _
      have en : n = -(m : Int) := by omega
      rw [en, str_neg (by omega), e0, str_assoc, hx, sx_nil, sx_of, sx_app, sx_app]
      rfl
    · refine psd_st (ps1_set 4 nd (pd_ifF (ptd_eq (ptd_cmp (pd_var 0) pd_int bd_lt rfl) (decide_eq_false n0)) pd_str)) ?_
      refine psd_ret (pd_js (.cons (pd_fmtS (pd_var 4) (by decide)) (.cons (pd_fmtI (pd_var 1) (hbl.log (m := 1920) (by decide))) (.cons (pd_fmtS (pd_var 2) (by omega)) .nil))) (lens3 (by rw [e0, sx_len]; show 0 + _ + _ ≤ _; omega))) ?_
      refine congrArg (fun q => Res.val (D.str q)) ?_
      show ((Str.empty ++ _) ++ _) ++ x = _
      have en : n = (m : Int) := by omega
      rw [en, e0, str_nat, str_assoc, hx, sx_nil, sx_of, sx_app, sx_app]
      rfl
/-! ### the texts of ratios -/
def qstr (x : Rat) : Str := if (x.den : Int) = 1 then Str.ofString (toString x.num) else (Str.ofString (toString x.num) ++ "/") ++ Str.ofString (toString (x.den : Int))
theorem len_str {n : Int} {k : Nat} (h : Bd k n) (hk : 0 < k := by decide) : (Str.ofString (toString n)).length ≤ k + 1 := by
  have e := int_text_length_le hk (h.log (Nat.le_refl _) hk)
  rw [ofString_length]
  exact e
def S_txt (C : Addr) (g : Rat → Str) : List D → Res → Prop := fun ds r => ∃ x, ds = [qD C x] ∧ Sz 1900 x ∧ r = .val (.str (g x))
theorem ok_Ratio_str (F : FunG K "__str__" "Ratio.__str__" s_Ratio_str f fd) (R : Rc K mg C) (c1 : Cal false P w K mg base 1 "digits_of" (spD K S_digits) []) : FnB false P w K mg base 2 f fd ["self"] (spD K (S_txt C qstr)) := by
  refine fnD F cs_Ratio_str (fun ds r ⟨_, h, _⟩ => by rw [h]; rfl) (fun cdv A outer s H hr nog ds r h => ?_)
  obtain ⟨x, rfl, hx, rfl⟩ := h
  have l1 := len_str hx.1
  have l2 := len_str hx.2
  by_cases d1 : (x.den : Int) = 1
  · refine psd_ifT (ptd_eq (ptd_cmp (pd_fld (pd_var 0) R.cl R.nB rfl) pd_int bd_eqI rfl) (decide_eq_true d1)) (psd_ret (pd_js1 (pd_fmtS (pd_call c1 hr (pad_cons (pd_fld (pd_var 0) R.cl R.nT rfl) pad_nil) ⟨_, rfl, hx.1, rfl⟩) (by omega))) ?_)
    exact congrArg (fun q => Res.val (D.str q)) (if_pos d1).symm
  · refine psd_skip (ptd_eq (ptd_cmp (pd_fld (pd_var 0) R.cl R.nB rfl) pd_int bd_eqI rfl) (decide_eq_false d1)) ?_
    refine psd_ret (pd_js (.cons (pd_fmtS (pd_call c1 hr (pad_cons (pd_fld (pd_var 0) R.cl R.nT rfl) pad_nil) ⟨_, rfl, hx.1, rfl⟩) (by omega)) (.cons pd_str (.cons (pd_fmtS (pd_call c1 hr (pad_cons (pd_fld (pd_var 0) R.cl R.nB rfl) pad_nil) ⟨_, rfl, hx.2, rfl⟩) (by omega)) .nil))) (lens3 (by show _ + 1 + _ ≤ _; omega))) ?_
    refine congrArg (fun q => Res.val (D.str q)) (Eq.trans ?_ (if_neg d1).symm)
    show ((Str.empty ++ _) ++ _) ++ _ = _
    rw [sx_nil, sx_of (toString x.num), sx_app, List.nil_append]
def qrepr (x : Rat) : Str := (((Str.ofString "Ratio(" ++ Str.ofString (toString x.num)) ++ Str.ofString ", ") ++ Str.ofString (toString (x.den : Int))) ++ Str.ofString ")"
theorem lens5 {a b c d e : Str} (h : a.length + b.length + c.length + d.length + e.length ≤ 1000000) : lensD Str.empty [a, b, c, d, e] := by
  have q : (Str.empty : Str).length = 0 := rfl
  refine ⟨?_, ?_, ?_, ?_, ?_, trivial⟩ <;> simp only [strLen_append, q] <;> omega
theorem ok_Ratio_repr (F : FunG K "__repr__" "Ratio.__repr__" s_Ratio_repr f fd) (R : Rc K mg C) (c1 : Cal false P w K mg base 1 "digits_of" (spD K S_digits) []) : FnB false P w K mg base 2 f fd ["self"] (spD K (S_txt C qrepr)) := by
  refine fnD F cs_Ratio_repr (fun ds r ⟨_, h, _⟩ => by rw [h]; rfl) (fun cdv A outer s H hr nog ds r h => ?_)
  obtain ⟨x, rfl, hx, rfl⟩ := h
  have l1 := len_str hx.1
  have l2 := len_str hx.2
  refine psd_ret (pd_js (.cons pd_str (.cons (pd_fmtS (pd_call c1 hr (pad_cons (pd_fld (pd_var 0) R.cl R.nT rfl) pad_nil) ⟨_, rfl, hx.1, rfl⟩) (by omega)) (.cons pd_str (.cons (pd_fmtS (pd_call c1 hr (pad_cons (pd_fld (pd_var 0) R.cl R.nB rfl) pad_nil) ⟨_, rfl, hx.2, rfl⟩) (by omega)) (.cons pd_str .nil))))) (lens5 (by show 6 + _ + 2 + _ + 1 ≤ _; omega))) ?_
  refine congrArg (fun q => Res.val (D.str q)) ?_
  show ((((Str.empty ++ _) ++ _) ++ _) ++ _) ++ _ = _
  rw [sx_nil, sx_of "Ratio(", sx_app, List.nil_append]
  unfold qrepr
  rw [sx_of "Ratio("]
/-! ### totals -/
theorem ok_ratio_of (F : FunG K "ratio_of" "ratio_of" s_ratio_of f fd) (B : Bi mg) (R : Rc K mg C) (mk : Mak P w K mg base 2 "Ratio" C (spIO K (T_init C)) [.int 1]) : FnB false P w K mg base 4 f fd ["number"] (spD K (S_want C)) := by
  refine fnD F cs_ratio_of (fun ds r ⟨_, _, h, _⟩ => by rw [h]; rfl) (fun cdv A outer s H hr nog ds r h => ?_)
  obtain ⟨d, x, rfl, hn, rfl⟩ := h
  cases hn with
  | q x => exact psd_ret (pd_ifT (ptd_bl (pd_callB (cd_isi (R.ty _) (.own C) R.oo) B.isi (pad_cons (pd_var 0) (pad_cons (pd_glob R.at_) pad_nil)))) (pd_var 0)) rfl
  | i n =>
    refine psd_ret (pd_ifF (ptd_bl (pd_callB (cd_isi (.int n) (.own C) R.io) B.isi (pad_cons (pd_var 0) (pad_cons (pd_glob R.at_) pad_nil)))) (pd_still (pd_make mk hr (pad_cons (pd_var 0) pad_nil) ⟨n, 1, rfl, rfl, by decide, by unfold Bd; decide, rfl, rfl⟩ (dens_int1 1)))) ?_
    exact congrArg (fun q => Res.val (qD C q)) (of_int n)
theorem ok_want_number (F : FunG K "want_number" "want_number" s_want_number f fd) (c1 : Cal false P w K mg base 2 "is_number" (spD K (S_is_number C)) []) (c2 : Cal false P w K mg base 4 "ratio_of" (spD K (S_want C)) []) : FnB false P w K mg base 5 f fd ["value"] (spD K (S_want C)) := by
  refine fnD F cs_want_number (fun ds r ⟨_, _, h, _⟩ => by rw [h]; rfl) (fun cdv A outer s H hr nog ds r h => ?_)
  obtain ⟨d, x, rfl, hn, rfl⟩ := h
  exact psd_skip (ptd_notF (ptd_bl (pd_call c1 hr (pad_cons (pd_var 0) pad_nil) ⟨_, _, rfl, hn, rfl⟩))) (psd_ret (pd_call c2 hr (pad_cons (pd_var 0) pad_nil) ⟨_, _, rfl, hn, rfl⟩) rfl)
def qsum (l : List Rat) : Rat := l.foldl (· + ·) 0
theorem qsum_app (l : List Rat) (x : Rat) : qsum (l ++ [x]) = qsum l + x := by
  unfold qsum
  rw [List.foldl_append]
  rfl
def S_total_of (C : Addr) : List D → Res → Prop := fun ds r => ∃ xs : List Rat, ds = [.lst (xs.map (qD C))] ∧ (∀ x ∈ xs, Sz 900 x) ∧ (∀ i, Sz 900 (qsum (xs.take i))) ∧ r = .val (qD C (qsum xs))
/-- an operator of the class, as it stands at two ratios -/
structure OwnOp (P : Program) (w : World) (K : PySem.W.Frag) (mg : Str → Option Value) (base : Heap) (k : Nat) (C : Addr) (nm : String) (S : List D → Res → Prop) : Prop where
  ex : ∃ (f : Addr) (fd : FuncData) (ps : List Str), OpC K C nm f ∧ FnOk P w K mg base CX0 k f fd ps (spD K S) ∧ Binds K fd ps []
theorem bd_q {X : Cx} {k j : Nat} {C : Addr} {op : Operator} {c : Rat → Rat → Prop} {g : Rat → Rat → Rat} {x y : Rat} (o : OwnOp X.prog X.w X.K X.mg X.base k C op.info.2 (S_op C c g)) (hr : Room j X.A) (hx : Sz 900 x) (hy : Sz 900 y) (hc : c x y) (hk : k ≤ j := by decide) : BinD X (binaryOp op) (qD C x) (qD C y) (.own (qD C (g x y))) := by
  obtain ⟨f, fd, ps, oc, F, hb⟩ := o.ex
  exact bd_own oc F hb hr ⟨x, _, y, rfl, .q y, hx, hy, hc, rfl⟩ hk
theorem ok_total_of (F : FunG K "total_of" "total_of" s_total_of f fd) (mk : Mak P w K mg base 2 "Ratio" C (spIO K (T_init C)) [.int 1]) (o : OwnOp P w K mg base 4 C "add" (S_op C (fun _ _ => True) fun x y => x + y)) : FnB false P w K mg base 5 f fd ["ratios"] (spD K (S_total_of C)) := by
  refine fnD F cs_total_of (fun ds r ⟨_, h, _⟩ => by rw [h]; rfl) (fun cdv A outer s H hr nog ds r h => ?_)
  obtain ⟨xs, rfl, hx, hs, rfl⟩ := h
  have nd := cs_total_of.nd
  have z0 : Rat.divInt 0 1 = qsum [] := by rw [of_int]; rfl
  refine psd_cons (fun ρ' => ρ' = [.val (.lst (xs.map (qD C))), .val (qD C (qsum [])), .non]) (ps1_set 1 nd (pd_still (pd_make mk hr (pad_cons pd_int pad_nil) ⟨0, 1, rfl, rfl, by decide, by unfold Bd; decide, rfl, rfl⟩ (dens_int1 1))) ?_) fun ρ' e => ?_
  · show _ = _
    rw [← z0]
    rfl
  subst e
  refine psd_for (fun i ρ' => ∃ p : Sl, ρ' = [.val (.lst (xs.map (qD C))), .val (qD C (qsum (xs.take i))), p]) PassesOwn.never (pid_list (pd_var 0)) (pgd_name 2 nd) ⟨_, rfl⟩ ?_ ?_
  · rintro i d ρ' hd ⟨p, rfl⟩
    rw [List.getElem?_map] at hd
    obtain ⟨x, hi, rfl⟩ := Option.map_eq_some_iff.mp hd
    refine ⟨_, rfl, psd_st (ps1_set 1 nd (pd_still (pd_bin (pd_var 1) (pd_var 2) (bd_q (g := fun x y => x + y) o hr (hs i) (hx x (List.mem_of_getElem? hi)) trivial)))) (psd_nil ⟨.val (qD C x), ?_⟩)⟩
    rw [take_step hi, qsum_app]
    rfl
  · rintro ρ' ⟨p, rfl⟩
    refine psd_ret (pd_var 1) ?_
    show _ = _
    rw [List.length_map, List.take_length]
/-- a list or a tuple of numbers -/
inductive Nums (C : Addr) : List D → List Rat → Prop where
  | nil : Nums C [] []
  | cons {d : D} {x : Rat} {ds : List D} {xs : List Rat} (h : Num C d x) (t : Nums C ds xs) : Nums C (d :: ds) (x :: xs)
theorem Nums.length {C : Addr} : ∀ {ds : List D} {xs : List Rat}, Nums C ds xs → ds.length = xs.length
  | _, _, .nil => rfl
  | _, _, .cons _ t => congrArg Nat.succ (Nums.length t)
theorem Nums.get {C : Addr} : ∀ {ds : List D} {xs : List Rat} {i : Nat} {d : D}, Nums C ds xs → ds[i]? = some d → ∃ x, xs[i]? = some x ∧ Num C d x
  | _, _, _, _, .nil, e => by simp at e
  | _, _, 0, _, .cons a _, e => by
    simp at e
    subst e
    exact ⟨_, rfl, a⟩
  | _, _, i + 1, d, .cons _ b, e => by
    obtain ⟨u, h1, h2⟩ := Nums.get (i := i) (d := d) b (by simpa using e)
    exact ⟨u, by simpa using h1, h2⟩
def S_is_list : List D → Res → Prop := fun ds r => ∃ xs, (ds = [.lst xs] ∨ ds = [.tup xs]) ∧ r = .val (.bl true)
theorem ok_is_list (F : FunG K "is_list" "is_list" s_is_list f fd) (B : Bi mg) (k1 : PySem.W.kitAny K (.type "list") [.type "list", .type "tuple"] = some true) (k2 : PySem.W.kitAny K (.type "tuple") [.type "list", .type "tuple"] = some true) : FnB false P w K mg base 1 f fd ["value"] (spD K S_is_list) := by
  refine fnD F cs_is_list (fun ds r ⟨_, h, _⟩ => by rcases h with h | h <;> rw [h] <;> rfl) (fun cdv A outer s H hr nog ds r h => ?_)
  obtain ⟨xs, rfl | rfl, rfl⟩ := h
  · exact psd_ret (pd_callB (cd_isiT (.lst xs) (.cons (.ty _) (.cons (.ty _) .nil)) k1) B.isi (pad_cons (pd_var 0) (pad_cons (pd_tup (pad_cons (pd_ty B.list) (pad_cons (pd_ty B.tuple) pad_nil))) pad_nil))) rfl
  · exact psd_ret (pd_callB (cd_isiT (.tup xs) (.cons (.ty _) (.cons (.ty _) .nil)) k2) B.isi (pad_cons (pd_var 0) (pad_cons (pd_tup (pad_cons (pd_ty B.list) (pad_cons (pd_ty B.tuple) pad_nil))) pad_nil))) rfl
def S_total (C : Addr) : List D → Res → Prop := fun ds r => ∃ (dl : List D) (xs : List Rat), (ds = [.adr C, .lst dl] ∨ ds = [.adr C, .tup dl]) ∧ Nums C dl xs ∧ dl.length ≤ 1000 ∧ (∀ x ∈ xs, Sz 900 x) ∧ (∀ i, Sz 900 (qsum (xs.take i))) ∧ r = .val (qD C (qsum xs))
theorem ok_Ratio_total (F : FunG K "total" "Ratio.total" s_Ratio_total f fd) (c1 : Cal false P w K mg base 1 "is_list" (spD K S_is_list) []) (c2 : Cal false P w K mg base 5 "want_number" (spD K (S_want C)) []) (c3 : Cal false P w K mg base 5 "total_of" (spD K (S_total_of C)) []) : FnB false P w K mg base 6 f fd ["cls", "numbers"] (spD K (S_total C)) := by
  refine fnD F cs_Ratio_total (fun ds r ⟨_, _, h, _⟩ => by rcases h with h | h <;> rw [h] <;> rfl) (fun cdv A outer s H hr nog ds r h => ?_)
  obtain ⟨dl, xs, hd, hn, hlen, hx, hs, rfl⟩ := h
  have nd := cs_Ratio_total.nd
  have step : ∀ (i : Nat) (d y : D), dl[i]? = some d → (xs.map (qD C))[i]? = some y → ∃ x, y = qD C x ∧ Num C d x := fun i d y h1 h2 => by
    obtain ⟨x, h3, h4⟩ := hn.get h1
    rw [List.getElem?_map, h3] at h2
    cases h2
    exact ⟨x, rfl, h4⟩
  have hl : (xs.map (qD C)).length = dl.length := by rw [List.length_map, hn.length]
  rcases hd with rfl | rfl
  · refine psd_skip (ptd_notF (ptd_bl (pd_call c1 hr (pad_cons (pd_var 1) pad_nil) ⟨dl, .inl rfl, rfl⟩))) ?_
    refine psd_ret (pd_call c3 hr (pad_cons (pd_still (pd_map (ys := xs.map (qD C)) [("number", 2)] nd (pid_list (pd_var 1)) (fun s H C cl fp => pgd_name 2 nd) hl (fun i d y h1 h2 => ?_) (by omega))) pad_nil) ⟨xs, rfl, hx, hs, rfl⟩) rfl
    obtain ⟨x, rfl, h4⟩ := step i d y h1 h2
    exact ⟨_, _, rfl, fun s H C cl fp => pd_call c2 hr (pad_cons (pd_var 2) pad_nil) ⟨_, _, rfl, h4, rfl⟩, rfl⟩
  · refine psd_skip (ptd_notF (ptd_bl (pd_call c1 hr (pad_cons (pd_var 1) pad_nil) ⟨dl, .inr rfl, rfl⟩))) ?_
    refine psd_ret (pd_call c3 hr (pad_cons (pd_still (pd_map (ys := xs.map (qD C)) [("number", 2)] nd (pid_tup (pd_var 1)) (fun s H C cl fp => pgd_name 2 nd) hl (fun i d y h1 h2 => ?_) (by omega))) pad_nil) ⟨xs, rfl, hx, hs, rfl⟩) rfl
    obtain ⟨x, rfl, h4⟩ := step i d y h1 h2
    exact ⟨_, _, rfl, fun s H C cl fp => pd_call c2 hr (pad_cons (pd_var 2) pad_nil) ⟨_, _, rfl, h4, rfl⟩, rfl⟩
end
end Dn
end

section
set_option Elab.async false
set_option linter.all false
set_option maxRecDepth 100000
set_option maxHeartbeats 2000000
set_option exponentiation.threshold 10000
namespace Dn
open PySem PySem.Spec L2
/-! ### the pot: numbers drawn from the script -/
structure Pot where
  a : Int
  b : Int
def potD (p : Pot) : D := .lst [.int p.a, .int p.b]
def Pot.Ok (p : Pot) : Prop := 0 ≤ p.b ∧ p.b < 4294967296
def draw (p : Pot) (m : Int) : Int × Pot :=
  if 0 < p.a then (p.a % m, ⟨p.a / m, p.b⟩)
  else (((p.b * 39373 + 7321) % 2147483587 * ((p.b * 39373 + 7321) % 2147483587) % 2147483563 / 19) % m, ⟨p.a, (p.b * 39373 + 7321) % 2147483587⟩)
theorem draw_ok {p : Pot} {m : Int} (h : p.Ok) (hm : 0 < m) : 0 ≤ (draw p m).1 ∧ (draw p m).1 < m ∧ (draw p m).2.Ok := by
  unfold draw
  split
  · exact ⟨Int.emod_nonneg _ (by omega), Int.emod_lt_of_pos _ hm, h⟩
  · refine ⟨Int.emod_nonneg _ (by omega), Int.emod_lt_of_pos _ hm, Int.emod_nonneg _ (by omega), ?_⟩
    have := Int.emod_lt_of_pos (p.b * 39373 + 7321) (by omega : (0 : Int) < 2147483587)
    show (p.b * 39373 + 7321) % 2147483587 < 4294967296
    omega
def T_draw : D → List D → Res → D → Prop := fun c ds r c' => ∃ (p : Pot) (m : Int), c = potD p ∧ ds = [.int m] ∧ p.Ok ∧ 0 < m ∧ m < 1073741824 ∧ r = .val (.int (draw p m).1) ∧ c' = potD (draw p m).2
section
variable {P : Program} {w : World} {K : PySem.W.Frag} {mg : Str → Option Value} {base : Heap} {f C : Addr} {fd : FuncData}
theorem ok_law_draw {gd : Bool} (F : FunG K "_law_draw" "_law_draw" s_law_draw f fd) (B : Bi mg) (hdm : mg "divmod" = none) : FnB gd P w K mg base 1 f fd ["_law_pot_here", "_law_many"] (spIO K T_draw) := by
  refine fnIO F cs_law_draw (fun c ds r c' ⟨_, _, _, h, _⟩ => by rw [h]; rfl) (fun cdv A outer s H hr nog c ds r c' h => ?_)
  obtain ⟨p, m, rfl, rfl, ok, hm, hm2, rfl, rfl⟩ := h
  have nd := cs_law_draw.nd
  have bb : Bd 32 p.b := by have := ok.1; have := ok.2; unfold Bd; omega
  by_cases h : 0 < p.a
  · refine psd_ifT (ptd_eq (ptd_cmp (pd_ixO 0 pd_int (h := rfl)) pd_int bd_gt rfl) (decide_eq_true h)) ?_
    refine psd_st (ps1_asg (pd_callB (cd_divmod ⟨hm, hm2⟩) hdm (pad_cons (pd_ixO 0 pd_int (h := rfl)) (pad_cons (pd_var 1) pad_nil))) (pgd_tup rfl (pgd_cons (pgd_subC 0) (pgd_cons (pgd_name 2 nd) pgd_nil))) ⟨_, .inl rfl, rfl, _, _, _, rfl, ⟨_, _, rfl, rfl, rfl⟩, _, _, _, rfl, rfl, rfl, rfl⟩) ?_
    refine psd_ret (pd_var 2) ⟨?_, ?_⟩
    · unfold draw; rw [if_pos h]
    · unfold draw; rw [if_pos h]; rfl
  · have b2 : Bd 31 ((p.b * 39373 + 7321) % 2147483587) := by
      have := Int.emod_lt_of_pos (p.b * 39373 + 7321) (by omega : (0 : Int) < 2147483587)
      have := Int.emod_nonneg (p.b * 39373 + 7321) (by omega : (2147483587 : Int) ≠ 0)
      unfold Bd
      omega
    refine psd_skip (ptd_eq (ptd_cmp (pd_ixO 0 pd_int (h := rfl)) pd_int bd_gt rfl) (decide_eq_false h)) ?_
    refine psd_st (ps1_sub 0 (pd_bin (pd_callTy cd_int B.int (pad_cons (pd_bin (pd_bin (pd_ixO 0 pd_int (h := rfl)) pd_int (bd_mul (bb.cmul (n := 20) (by unfold Bd; decide)))) pd_int bd_add) pad_nil)) pd_int (bd_mod (by decide))) pd_int (hj := rfl)) ?_
    refine psd_ret (pd_bin (pd_callTy cd_int B.int (pad_cons (pd_bin (pd_bin (pd_callTy cd_int B.int (pad_cons (pd_bin (pd_ixO 0 pd_int (h := rfl)) (pd_ixO 0 pd_int (h := rfl)) (bd_mul (b2.cmul b2))) pad_nil)) pd_int (bd_mod (by decide))) pd_int (bd_div (by decide))) pad_nil)) (pd_var 1) (bd_mod hm)) ⟨?_, ?_⟩
    · unfold draw; rw [if_neg h]
    · unfold draw; rw [if_neg h]; rfl
def cell (ns : List Int) (k : Nat) : Int := match ns[k]? with
  | some z => if z < 0 then -z else z
  | none => 127 * (k : Int) + 89
def potOf (ns : List Int) (k : Nat) : Pot := ⟨if cell ns k - 10 ^ 18 > 0 then cell ns k - 10 ^ 18 else 0, (cell ns k % 2147483549 * 48271 + 7321 * (k : Int) + 31) % 2147483563 + 1⟩
theorem potOf_ok (ns : List Int) (k : Nat) : (potOf ns k).Ok := by
  have := Int.emod_lt_of_pos (cell ns k % 2147483549 * 48271 + 7321 * (k : Int) + 31) (by omega : (0 : Int) < 2147483563)
  have := Int.emod_nonneg (cell ns k % 2147483549 * 48271 + 7321 * (k : Int) + 31) (by omega : (2147483563 : Int) ≠ 0)
  refine ⟨?_, ?_⟩
  · show 0 ≤ (cell ns k % 2147483549 * 48271 + 7321 * (k : Int) + 31) % 2147483563 + 1
    omega
  · show (cell ns k % 2147483549 * 48271 + 7321 * (k : Int) + 31) % 2147483563 + 1 < 4294967296
    omega
def S_pot : List D → Res → Prop := fun ds r => ∃ (ns : List Int) (k : Nat), ds = [.lstK (ns.map D.int), .int (k : Int)] ∧ k < 64 ∧ r = .own (potD (potOf ns k))
theorem ok_law_pot {gd : Bool} (F : FunG K "_law_pot" "_law_pot" s_law_pot f fd) (B : Bi mg) (hl : mg "len" = none) (hx : mg "max" = none) : FnB gd P w K mg base 1 f fd ["_law_script", "_law_k"] (spD K S_pot) := by
  refine fnD F cs_law_pot (fun ds r ⟨_, _, h, _⟩ => by rw [h]; rfl) (fun cdv A outer s H hr nog ds r h => ?_)
  obtain ⟨ns, k, rfl, hk, rfl⟩ := h
  have nd := cs_law_pot.nd
  have kb : Bd 6 (k : Int) := by unfold Bd; omega
  have hL : lenD (.lstK (ns.map D.int)) = some ns.length := by
    show some _ = some _
    rw [List.length_map]
  refine psd_cons (fun ρ' => ρ' = [.val (.lstK (ns.map D.int)), .val (.int (k : Int)), .val (.int (cell ns k))]) ?_ fun ρ' e => ?_
  · by_cases h : k < ns.length
    · have e1 : ns[k]? = some ns[k] := List.getElem?_eq_getElem h
      refine ps1_set 2 nd (pd_ifT (ptd_eq (ptd_cmp (pd_var 1) (pd_callB (cd_len hL) hl (pad_cons (pd_var 0) pad_nil)) bd_lt rfl) (decide_eq_true (by omega))) (pd_callB cd_abs B.abs (pad_cons (pd_ixLK (pd_var 0) (pd_var 1) (atI_nat (by rw [List.getElem?_map, e1]; rfl))) pad_nil))) ?_
      show _ = _
      unfold cell
      rw [e1]
      rfl
    · have e1 : ns[k]? = none := List.getElem?_eq_none (by omega)
      refine ps1_set 2 nd (pd_ifF (ptd_eq (ptd_cmp (pd_var 1) (pd_callB (cd_len hL) hl (pad_cons (pd_var 0) pad_nil)) bd_lt rfl) (decide_eq_false (by omega))) (pd_bin (pd_bin pd_int (pd_var 1) (bd_mul (Bd.cmul (m := 7) (by unfold Bd; decide) kb))) pd_int bd_add)) ?_
      show _ = _
      unfold cell
      rw [e1]
      rfl
  subst e
  have cb : Bd 31 (cell ns k % 2147483549) := by
    have := Int.emod_lt_of_pos (cell ns k) (by omega : (0 : Int) < 2147483549)
    have := Int.emod_nonneg (cell ns k) (by omega : (2147483549 : Int) ≠ 0)
    unfold Bd
    omega
  refine psd_ret (pd_lst (pad_cons (pd_callB cd_max hx (pad_cons pd_int (pad_cons (pd_bin (pd_var 2) (pd_bin pd_int pd_int (bd_pow ⟨by decide, by decide, by decide⟩)) bd_sub) pad_nil))) (pad_cons (pd_bin (pd_bin (pd_callTy cd_int B.int (pad_cons (pd_bin (pd_bin (pd_bin (pd_bin (pd_callTy cd_int B.int (pad_cons (pd_var 2) pad_nil)) pd_int (bd_mod (by decide))) pd_int (bd_mul (cb.cmul (n := 20) (by unfold Bd; decide)))) (pd_bin pd_int (pd_var 1) (bd_mul (Bd.cmul (m := 20) (by unfold Bd; decide) kb))) bd_add) pd_int bd_add) pad_nil)) pd_int (bd_mod (by decide))) pd_int bd_add) pad_nil))) ?_
  rfl
def S_low : List D → Res → Prop := fun ds r => ∃ t b : Int, ds = [.int t, .int b] ∧ b ≠ 0 ∧ Bd 8000 b ∧ r = .val (qP (Rat.divInt t b))
theorem abs_nat (t : Int) : (if t < 0 then -t else t) = (t.natAbs : Int) := by split <;> omega
theorem ok_law_low {gd : Bool} (F : FunG K "_law_low" "_law_low" s_law_low f fd) (B : Bi mg) : FnB gd P w K mg base 1 f fd ["_law_top", "_law_bottom"] (spD K S_low) := by
  refine fnD F cs_law_low (fun ds r ⟨_, _, h, _⟩ => by rw [h]; rfl) (fun cdv A outer s H hr nog ds r h => ?_)
  obtain ⟨t, b, rfl, hb, hz, rfl⟩ := h
  have nd := cs_law_low.nd
  obtain ⟨e1, e2⟩ := low_both t b hb
  have cd := fun i => (sgcd_bd (t := t) hb hz).cdiv i (sgcd_ne hb)
  refine psd_cons (fun ρ' => ρ' = [.val (.int t), .val (.int b), .val (.int t.natAbs), .val (.int b.natAbs)]) (ps1_par 2 3 (pad_cons (pd_callB cd_abs B.abs (pad_cons (pd_var 0) pad_nil)) (pad_cons (pd_callB cd_abs B.abs (pad_cons (pd_var 1) pad_nil)) pad_nil)) nd ?_) fun ρ' e => ?_
  · show _ = _
    rw [abs_nat, abs_nat]
    rfl
  subst e
  refine psd_while (fun k ρ' => ∃ u v : Nat, ρ' = [.val (.int t), .val (.int b), .val (.int u), .val (.int v)] ∧ k = v ∧ Nat.gcd u v = Nat.gcd t.natAbs b.natAbs) b.natAbs PassesOwn.never ⟨_, _, rfl, rfl, rfl⟩ ?_
  rintro v ρ' ⟨u, _, rfl, rfl, hg⟩
  refine ⟨_, _, ptd_cmp (pd_var 3) pd_int bd_gt rfl, fun h => ?_, fun h => ?_⟩
  · have h : (0 : Int) < (v : Int) := of_decide_eq_true h
    refine psd_st (ps1_par 2 3 (pad_cons (pd_var 3) (pad_cons (pd_bin (pd_callTy cd_int B.int (pad_cons (pd_var 2) pad_nil)) (pd_var 3) (bd_mod h)) pad_nil)) nd) (psd_nil ⟨u % v, Nat.mod_lt _ (by omega), v, u % v, ?_, rfl, ?_⟩)
    · rfl
    · rw [← hg, Nat.gcd_comm v, ← Nat.gcd_rec, Nat.gcd_comm]
  · have h : ¬ (0 : Int) < (v : Int) := of_decide_eq_false h
    obtain rfl : v = 0 := by omega
    rw [Nat.gcd_zero_right] at hg
    subst hg
    by_cases n : 0 < b
    · have hs : sgcd t b = ((Nat.gcd t.natAbs b.natAbs : Nat) : Int) := if_neg (by omega)
      rw [hs] at cd e1 e2
      refine psd_st (ps1_set 2 nd (pd_ifT (ptd_eq (ptd_cmp (pd_var 1) pd_int bd_gt rfl) (decide_eq_true n)) (pd_var 2))) ?_
      refine psd_ret (pd_tup (pad_cons (pd_bin (pd_var 0) (pd_var 2) (bd_divA (cd _))) (pad_cons (pd_bin (pd_var 1) (pd_var 2) (bd_divA (cd _))) pad_nil))) ?_
      rw [qP, ← e1, ← e2]
      rfl
    · have hs : sgcd t b = 0 - ((Nat.gcd t.natAbs b.natAbs : Nat) : Int) := if_pos (by omega)
      rw [hs] at cd e1 e2
      refine psd_st (ps1_set 2 nd (pd_ifF (ptd_eq (ptd_cmp (pd_var 1) pd_int bd_gt rfl) (decide_eq_false n)) (pd_bin pd_int (pd_var 2) bd_sub))) ?_
      refine psd_ret (pd_tup (pad_cons (pd_bin (pd_var 0) (pd_var 2) (bd_divA (cd _))) (pad_cons (pd_bin (pd_var 1) (pd_var 2) (bd_divA (cd _))) pad_nil))) ?_
      rw [qP, ← e1, ← e2]
      rfl
end
end Dn
end

section
set_option Elab.async false
set_option linter.all false
set_option maxRecDepth 100000
set_option maxHeartbeats 2000000
set_option exponentiation.threshold 10000
namespace Dn
open PySem PySem.Spec L2
def num2 (w t b : Int) (p : Pot) : Int × Int × Pot := if w = 3 then (t * 10 ^ 28 + (draw p (10 ^ 6)).1, b * 10 ^ 12 + (draw (draw p (10 ^ 6)).2 (10 ^ 6)).1, (draw (draw p (10 ^ 6)).2 (10 ^ 6)).2) else (t, b, p)
def num3 (w t b : Int) (p : Pot) : Int × Int × Pot := (t, if 0 < (draw p 3).1 then (if w = 0 then 1 else b) else 0 - (if w = 0 then 1 else b), (draw p 3).2)
def numP (p : Pot) : Pot := (draw (draw (draw p 4).2 61).2 12).2
def num (p : Pot) : Int × Int × Pot :=
  num3 (draw p 4).1 (num2 (draw p 4).1 ((draw (draw p 4).2 61).1 - 30) (1 + (draw (draw (draw p 4).2 61).2 12).1) (numP p)).1 (num2 (draw p 4).1 ((draw (draw p 4).2 61).1 - 30) (1 + (draw (draw (draw p 4).2 61).2 12).1) (numP p)).2.1
    (num2 (draw p 4).1 ((draw (draw p 4).2 61).1 - 30) (1 + (draw (draw (draw p 4).2 61).2 12).1) (numP p)).2.2
theorem num2_ok {w t b : Int} {p : Pot} (ok : p.Ok) (h1 : -30 ≤ t) (h2 : t ≤ 30) (h3 : 1 ≤ b) (h4 : b ≤ 12) : (num2 w t b p).2.2.Ok ∧ 1 ≤ (num2 w t b p).2.1 ∧ Bd 100 (num2 w t b p).1 ∧ Bd 100 (num2 w t b p).2.1 := by
  have o1 := draw_ok (m := 10 ^ 6) ok (by decide)
  have o2 := draw_ok (m := 10 ^ 6) o1.2.2 (by decide)
  obtain ⟨a1, a2, a3⟩ := o1
  obtain ⟨b1, b2, b3⟩ := o2
  unfold num2
  by_cases w3 : w = 3
  · rw [if_pos w3]
    refine ⟨b3, ?_, ?_, ?_⟩ <;> (try unfold Bd) <;> dsimp only <;> omega
  · rw [if_neg w3]
    refine ⟨ok, h3, ?_, ?_⟩ <;> (try unfold Bd) <;> dsimp only <;> omega
theorem num3_ok {w t b : Int} {p : Pot} (ok : p.Ok) (h1 : Bd 100 t) (h2 : Bd 100 b) (h3 : 1 ≤ b) : (num3 w t b p).2.2.Ok ∧ (num3 w t b p).2.1 ≠ 0 ∧ Bd 100 (num3 w t b p).1 ∧ Bd 100 (num3 w t b p).2.1 := by
  have o1 := draw_ok (m := 3) ok (by decide)
  unfold num3
  refine ⟨o1.2.2, ?_, h1, ?_⟩ <;> dsimp only <;> unfold Bd at * <;> split <;> split <;> omega
theorem num_ok {p : Pot} (ok : p.Ok) : (num p).2.2.Ok ∧ (num p).2.1 ≠ 0 ∧ Bd 100 (num p).1 ∧ Bd 100 (num p).2.1 := by
  have o1 := draw_ok (m := 4) ok (by decide)
  have o2 := draw_ok (m := 61) o1.2.2 (by decide)
  have o3 := draw_ok (m := 12) o2.2.2 (by decide)
  obtain ⟨q1, q2, q3, q4⟩ := num2_ok (w := (draw p 4).1) (t := (draw (draw p 4).2 61).1 - 30) (b := 1 + (draw (draw (draw p 4).2 61).2 12).1) (p := numP p) o3.2.2 (by omega) (by omega) (by omega) (by omega)
  exact num3_ok q1 q3 q4 q2
def T_number : D → List D → Res → D → Prop := fun c ds r c' => ∃ p : Pot, c = potD p ∧ ds = [] ∧ p.Ok ∧ r = .val (.tup [.int (num p).1, .int (num p).2.1]) ∧ c' = potD (num p).2.2
section
variable {P : Program} {w : World} {K : PySem.W.Frag} {mg : Str → Option Value} {base : Heap} {f C : Addr} {fd : FuncData}
theorem ok_law_number {gd : Bool} (F : FunG K "_law_number" "_law_number" s_law_number f fd) (c1 : Cal false P w K mg base 1 "_law_draw" (spIO K T_draw) []) : FnB gd P w K mg base 2 f fd ["_law_pot_here"] (spIO K T_number) := by
  refine fnIO F cs_law_number (fun c ds r c' ⟨_, _, h, _⟩ => by rw [h]; rfl) (fun cdv A outer s H hr nog c ds r c' h => ?_)
  obtain ⟨p, rfl, rfl, ok, rfl, rfl⟩ := h
  have nd := cs_law_number.nd
  have o1 := draw_ok (m := 4) ok (by decide)
  have o2 := draw_ok (m := 61) o1.2.2 (by decide)
  have o3 := draw_ok (m := 12) o2.2.2 (by decide)
  obtain ⟨k1, k2, k3, k4⟩ := num2_ok (w := (draw p 4).1) (t := (draw (draw p 4).2 61).1 - 30) (b := 1 + (draw (draw (draw p 4).2 61).2 12).1) (p := numP p) o3.2.2 (by omega) (by omega) (by omega) (by omega)
  refine psd_st (ps1_set 1 nd (pd_callIO 0 c1 hr rfl (pad_cons pd_int pad_nil) rfl ⟨p, 4, rfl, rfl, ok, by decide, by decide, rfl, rfl⟩)) ?_
  refine psd_st (ps1_par 2 3 (pad_cons (pd_bin (pd_callIO 0 c1 hr rfl (pad_cons pd_int pad_nil) rfl ⟨_, 61, rfl, rfl, o1.2.2, by decide, by decide, rfl, rfl⟩) pd_int bd_sub) (pad_cons (pd_bin pd_int (pd_callIO 0 c1 hr rfl (pad_cons pd_int pad_nil) rfl ⟨_, 12, rfl, rfl, o2.2.2, by decide, by decide, rfl, rfl⟩) bd_add) pad_nil)) nd) ?_
  have tb : Bd 6 ((draw (draw p 4).2 61).1 - 30) := by unfold Bd; omega
  have bb : Bd 6 (1 + (draw (draw (draw p 4).2 61).2 12).1) := by unfold Bd; omega
  unfold num
  unfold numP at *
  generalize (draw (draw (draw p 4).2 61).2 12).2 = p2 at *
  generalize 1 + (draw (draw (draw p 4).2 61).2 12).1 = b at *
  generalize (draw (draw p 4).2 61).1 - 30 = t at *
  generalize (draw p 4).1 = w at *
  have ok2 := o3.2.2
  clear o1 o2 o3
  refine psd_cons (fun ρ' => ρ' = [.own (potD (num2 w t b p2).2.2), .val (.int w), .val (.int (num2 w t b p2).1), .val (.int (num2 w t b p2).2.1)]) ?_ fun ρ' e => ?_
  · refine ps1_if (ptd_cmp (pd_var 1) pd_int bd_eqI rfl) (fun h => ?_) (fun h => ?_)
    · have h : w = 3 := of_decide_eq_true h
      have q1 := draw_ok (m := 10 ^ 6) ok2 (by decide)
      refine psd_st (ps1_par 2 3 (pad_cons (pd_bin (pd_bin (pd_var 2) (pd_bin pd_int pd_int (bd_pow ⟨by decide, by decide, by decide⟩)) (bd_mul (tb.cmul (n := 100) (by unfold Bd; decide)))) (pd_callIO 0 c1 hr rfl (pad_cons (pd_bin pd_int pd_int (bd_pow ⟨by decide, by decide, by decide⟩)) pad_nil) rfl ⟨_, _, rfl, rfl, ok2, by decide, by decide, rfl, rfl⟩) bd_add)
        (pad_cons (pd_bin (pd_bin (pd_var 3) (pd_bin pd_int pd_int (bd_pow ⟨by decide, by decide, by decide⟩)) (bd_mul (bb.cmul (n := 100) (by unfold Bd; decide)))) (pd_callIO 0 c1 hr rfl (pad_cons (pd_bin pd_int pd_int (bd_pow ⟨by decide, by decide, by decide⟩)) pad_nil) rfl ⟨_, _, rfl, rfl, q1.2.2, by decide, by decide, rfl, rfl⟩) bd_add) pad_nil)) nd) (psd_nil ?_)
      show _ = _
      unfold num2
      rw [if_pos h]
      rfl
    · have h : ¬ w = 3 := of_decide_eq_false h
      refine psd_nil ?_
      show _ = _
      unfold num2
      rw [if_neg h]
      rfl
  subst e
  generalize num2 w t b p2 = z at *
  obtain ⟨z1, z2, z3⟩ := z
  dsimp only at *
  refine psd_cons (fun ρ' => ρ' = [.own (potD z3), .val (.int w), .val (.int z1), .val (.int (if w = 0 then 1 else z2))]) ?_ fun ρ' e => ?_
  · refine ps1_if (ptd_cmp (pd_var 1) pd_int bd_eqI rfl) (fun h => ?_) (fun h => ?_)
    · refine psd_st (ps1_set 3 nd pd_int) (psd_nil ?_)
      show _ = _
      rw [if_pos (of_decide_eq_true h)]
      rfl
    · refine psd_nil ?_
      show _ = _
      rw [if_neg (of_decide_eq_false h)]
  subst e
  unfold num3
  generalize (if w = 0 then 1 else z2) = y
  by_cases h : 0 < (draw z3 3).1
  · rw [if_pos h]
    exact psd_ret (pd_tup (pad_cons (pd_var 2) (pad_cons (pd_ifT (ptd_eq (ptd_cmp (pd_callIO 0 c1 hr rfl (pad_cons pd_int pad_nil) rfl ⟨_, _, rfl, rfl, k1, by decide, by decide, rfl, rfl⟩) pd_int bd_gt rfl) (decide_eq_true h)) (pd_var 3)) pad_nil))) ⟨rfl, rfl⟩
  · rw [if_neg h]
    exact psd_ret (pd_tup (pad_cons (pd_var 2) (pad_cons (pd_ifF (ptd_eq (ptd_cmp (pd_callIO 0 c1 hr rfl (pad_cons pd_int pad_nil) rfl ⟨_, _, rfl, rfl, k1, by decide, by decide, rfl, rfl⟩) pd_int bd_gt rfl) (decide_eq_false h)) (pd_bin pd_int (pd_var 3) bd_sub)) pad_nil))) ⟨rfl, rfl⟩
end
end Dn
end

section
set_option Elab.async false
set_option linter.all false
set_option maxRecDepth 100000
set_option maxHeartbeats 2000000
set_option exponentiation.threshold 10000
/-! K11Ops: what the class of ratios does, as rules. -/
namespace Dn
open PySem PySem.Spec L2
section
variable (P : Program) (w : World) (K : PySem.W.Frag) (mg : Str → Option Value) (base : Heap) (k : Nat) (C : Addr)
/-- a special method -/
structure OwnS (nm : Str) (S : List D → Res → Prop) : Prop where
  ex : ∃ (f : Addr) (fd : FuncData) (ps : List Str), PySem.W.findIn K (.ref C) nm = some (some (.ref f)) ∧ PySem.W.isFn K (.ref f) = true ∧ FnOk P w K mg base CX0 k f fd ps (spD K S) ∧ Binds K fd ps []
structure OwnR (nm : String) (S : List D → Res → Prop) : Prop where
  ex : ∃ (g : Addr) (fd : FuncData) (ps : List Str), OpR1 K C nm g ∧ FnOk P w K mg base CX0 k g fd ps (spD K S) ∧ Binds K fd ps []
structure Prp (nm : Str) (S : List D → Res → Prop) : Prop where
  ex : ∃ (pp g : Addr) (fd : FuncData) (ps : List Str), PropOf K C nm pp g ∧ FnOk P w K mg base CX0 k g fd ps (spD K S) ∧ Binds K fd ps []
/-- what == of a ratio says of such a value: no -/
structure NoQ (t : Value) : Prop where
  no : PySem.W.kitOne K t (.ref C) = some false
  nf : PySem.W.notFirst K C t = true
structure Ro : Prop where
  bi : Bi mg
  rc : Rc K mg C
  mkR : Mak P w K mg base 2 "Ratio" C (spIO K (T_init C)) []
  mkI : Mak P w K mg base 2 "Ratio" C (spIO K (T_init C)) [.int 1]
  mkK : MakK P w K mg base 2 "Ratio" C (spIO K (T_init C)) ["bottom", "top"] [0, 2, 1]
  add : OwnOp P w K mg base 4 C "add" (S_op C (fun _ _ => True) fun x y => x + y)
  sub : OwnOp P w K mg base 4 C "sub" (S_op C (fun _ _ => True) fun x y => x - y)
  mul : OwnOp P w K mg base 4 C "mul" (S_op C (fun _ _ => True) fun x y => x * y)
  radd : OwnR P w K mg base 4 C "add" (S_op C (fun _ _ => True) fun x y => x + y)
  rsub : OwnR P w K mg base 4 C "sub" (S_op C (fun _ _ => True) fun x y => y - x)
  rmul : OwnR P w K mg base 4 C "mul" (S_op C (fun _ _ => True) fun x y => x * y)
  iadd : OpI K C "add"
  isub : OpI K C "sub"
  imul : OpI K C "mul"
  neg : OwnS P w K mg base 4 C "__neg__" (S_un C fun x => -x)
  over : Met P w K mg base 4 C "over" (spD K (S_op C (fun _ y => y ≠ 0) fun x y => x / y)) []
  overK : MetK P w K mg base 4 C "over" (spD K (S_op C (fun _ y => y ≠ 0) fun x y => x / y)) ["other"] [0, 1]
  size : Met P w K mg base 4 C "size" (spD K (S_un C qabs)) []
  below : Met P w K mg base 3 C "is_below" (spD K (S_ask C fun x y => decide (x < y))) []
  belowK : MetK P w K mg base 3 C "is_below" (spD K (S_ask C fun x y => decide (x < y))) ["other"] [0, 1]
  most : Met P w K mg base 3 C "is_at_most" (spD K (S_ask C fun x y => decide (x ≤ y))) []
  eq : OwnS P w K mg base 1 C "__eq__" (S_eq K C)
  ne : PySem.W.findIn K (.ref C) "__ne__" = some (some (.builtin "object.__ne__"))
  nfo : PySem.W.notFirst K C (.ref C) = true
  ptop : Prp P w K mg base 1 C "top" (S_get C fun x => .int x.num)
  pbot : Prp P w K mg base 1 C "bottom" (S_get C fun x => .int (x.den : Int))
  psgn : Prp P w K mg base 1 C "sign" (S_get C fun x => .int (qsgn x))
  pwho : Prp P w K mg base 1 C "is_whole" (S_get C fun x => .bl (decide ((x.den : Int) = 1)))
  sstr : OwnS P w K mg base 2 C "__str__" (S_txt C qstr)
  srep : OwnS P w K mg base 2 C "__repr__" (S_txt C qrepr)
  total : Clm P w K mg base 6 C "total" (spD K (S_total C)) 1 [] [0, 1]
  totalK : Clm P w K mg base 6 C "total" (spD K (S_total C)) 0 ["numbers"] [0, 1]
  qi : NoQ K C (.type "int")
  qs : NoQ K C (.type "str")
  ql : NoQ K C (.type "list")
  qt : NoQ K C (.type "tuple")
  qd : NoQ K C (.type "dict")
end
section
variable {X : Cx} {j : Nat} {C : Addr} {x y : Rat} {n : Int} {ρ ρ1 ρ2 : Rho} {e o : Expr} {es : List Expr} {pos p apos : Pos} {pl : Sem Bool}
theorem bd_qI {k : Nat} {op : Operator} {c : Rat → Rat → Prop} {g : Rat → Rat → Rat} (o : OwnOp X.prog X.w X.K X.mg X.base k C op.info.2 (S_op C c g)) (oi : OpI X.K C op.info.2) (hr : Room j X.A) (hx : Sz 900 x) (hy : Sz 900 (n : Rat)) (hc : c x n) (hk : k ≤ j := by decide) : BinD X (binaryOp op) (qD C x) (.int n) (.own (qD C (g x n))) := by
  obtain ⟨f, fd, ps, oc, F, hb⟩ := o.ex
  exact bd_ownI oc oi F hb hr ⟨x, _, n, rfl, .i n, hx, hy, hc, rfl⟩ hk
theorem bd_Iq {k : Nat} {op : Operator} {id : String} {c : Rat → Rat → Prop} {g : Rat → Rat → Rat} (o : OwnR X.prog X.w X.K X.mg X.base k C op.info.2 (S_op C c g)) (lv : LeavesI X.prog X.w op.info.2 id) (hr : Room j X.A) (hx : Sz 900 x) (hy : Sz 900 (n : Rat)) (hc : c x n) (hk : k ≤ j := by decide) : BinD X (binaryOp op) (.int n) (qD C x) (.own (qD C (g x n))) := by
  obtain ⟨f, fd, ps, oc, F, hb⟩ := o.ex
  exact bd_Iown lv oc F hb hr ⟨x, _, n, rfl, .i n, hx, hy, hc, rfl⟩ hk
variable (R : Ro X.prog X.w X.K X.mg X.base C) (hr : Room j X.A) (hx : Sz 900 x) (hy : Sz 900 y)
include R hr hx hy
theorem q_add (hk : 4 ≤ j := by decide) : BinD X (binaryOp .Add) (qD C x) (qD C y) (.own (qD C (x + y))) := bd_q (g := fun x y => x + y) R.add hr hx hy trivial hk
theorem q_sub (hk : 4 ≤ j := by decide) : BinD X (binaryOp .Sub) (qD C x) (qD C y) (.own (qD C (x - y))) := bd_q (g := fun x y => x - y) R.sub hr hx hy trivial hk
theorem q_mul (hk : 4 ≤ j := by decide) : BinD X (binaryOp .Mult) (qD C x) (qD C y) (.own (qD C (x * y))) := bd_q (g := fun x y => x * y) R.mul hr hx hy trivial hk
omit hy
variable (hn : Sz 900 (n : Rat))
include hn
theorem q_addI (hk : 4 ≤ j := by decide) : BinD X (binaryOp .Add) (qD C x) (.int n) (.own (qD C (x + n))) := bd_qI (g := fun x y => x + y) R.add R.iadd hr hx hn trivial hk
theorem q_subI (hk : 4 ≤ j := by decide) : BinD X (binaryOp .Sub) (qD C x) (.int n) (.own (qD C (x - n))) := bd_qI (g := fun x y => x - y) R.sub R.isub hr hx hn trivial hk
theorem q_mulI (hk : 4 ≤ j := by decide) : BinD X (binaryOp .Mult) (qD C x) (.int n) (.own (qD C (x * n))) := bd_qI (g := fun x y => x * y) R.mul R.imul hr hx hn trivial hk
theorem q_Iadd (hk : 4 ≤ j := by decide) : BinD X (binaryOp .Add) (.int n) (qD C x) (.own (qD C (x + n))) := bd_Iq (g := fun x y => x + y) R.radd leaves_add hr hx hn trivial hk
theorem q_Isub (hk : 4 ≤ j := by decide) : BinD X (binaryOp .Sub) (.int n) (qD C x) (.own (qD C ((n : Rat) - x))) := bd_Iq (g := fun x y => y - x) R.rsub leaves_sub hr hx hn trivial hk
theorem q_Imul (hk : 4 ≤ j := by decide) : BinD X (binaryOp .Mult) (.int n) (qD C x) (.own (qD C (x * n))) := bd_Iq (g := fun x y => x * y) R.rmul leaves_mul hr hx hn trivial hk
omit hn
theorem q_neg (hk : 4 ≤ j := by decide) : UnD X (unaryOp .USub) (qD C x) (.own (qD C (-x))) := by
  obtain ⟨f, fd, ps, a, fn, F, hb⟩ := R.neg.ex
  exact ud_own a fn F hb hr ⟨x, rfl, hx, rfl⟩ hk
omit hx
theorem q_eqQ (hk : 1 ≤ j := by decide) : BinD X (compareOp .Eq) (qD C x) (qD C y) (.val (.bl (decide (x = y)))) := by
  obtain ⟨f, fd, ps, a, fn, F, hb⟩ := R.eq.ex
  exact bd_cmpO (op := .Eq) (fun _ _ => rfl) a fn (R.rc.ty _) R.nfo F hb hr ⟨x, _, _, rfl, rfl, .inl ⟨y, rfl, rfl⟩⟩ hk
theorem q_neQ (hk : 2 ≤ j := by decide) : BinD X (compareOp .NotEq) (qD C x) (qD C y) (.val (.bl (!decide (x = y)))) := by
  obtain ⟨f, fd, ps, a, fn, F, hb⟩ := R.eq.ex
  exact bd_neO R.ne R.rc.cm a fn (R.rc.ty _) R.nfo F hb hr ⟨x, _, _, rfl, rfl, .inl ⟨y, rfl, rfl⟩⟩ hk
theorem q_str (hx : Sz 1900 x) (hk : 4 ≤ j := by decide) : CallD X (.type "str") [qD C x] (.val (.str (qstr x))) := by
  obtain ⟨f, fd, ps, a, fn, F, hb⟩ := R.sstr.ex
  exact cd_strO a fn F hb hr ⟨x, rfl, hx, rfl⟩ hk
theorem q_repr (hx : Sz 1900 x) (hk : 3 ≤ j := by decide) : CallD X (.builtin "repr") [qD C x] (.val (.str (qrepr x))) := by
  obtain ⟨f, fd, ps, a, fn, F, hb⟩ := R.srep.ex
  exact cd_reprO a fn F hb hr ⟨x, rfl, hx, rfl⟩ hk
end
section
variable {X : Cx} {j : Nat} {C : Addr} {x y : Rat} {n : Int} {ρ ρ1 ρ2 : Rho} {e o : Expr} {es : List Expr} {pos p apos : Pos} {pl : Sem Bool} {d : D} {t : Value} {f : Str} {g : Rat → D} {kws : List Keyword} {as : List D}
theorem q_eqN (R : Ro X.prog X.w X.K X.mg X.base C) (hr : Room j X.A) (ht : TyD X.K d t) (q : NoQ X.K C t) (hk : 1 ≤ j := by decide) : BinD X (compareOp .Eq) (qD C x) d (.val (.bl false)) := by
  obtain ⟨f, fd, ps, a, fn, F, hb⟩ := R.eq.ex
  exact bd_cmpO (op := .Eq) (fun _ _ => rfl) a fn ht q.nf F hb hr ⟨x, _, _, rfl, rfl, .inr ⟨rfl, t, ht, q.no⟩⟩ hk
theorem q_neN (R : Ro X.prog X.w X.K X.mg X.base C) (hr : Room j X.A) (ht : TyD X.K d t) (q : NoQ X.K C t) (hk : 2 ≤ j := by decide) : BinD X (compareOp .NotEq) (qD C x) d (.val (.bl true)) := by
  obtain ⟨f, fd, ps, a, fn, F, hb⟩ := R.eq.ex
  exact bd_neO (b := false) R.ne R.rc.cm a fn ht q.nf F hb hr ⟨x, _, _, rfl, rfl, .inr ⟨rfl, t, ht, q.no⟩⟩ hk
theorem q_prop (R : Ro X.prog X.w X.K X.mg X.base C) (hr : Room j X.A) (pr : Prp X.prog X.w X.K X.mg X.base 1 C f (S_get C g)) (ho : PD X e ρ (.val (qD C x)) ρ1) (hk : 2 ≤ j := by decide) (hab : attributeBase e f X.env (eval e X.env) = eval e X.env := by rfl) : PD X (.Attribute e f pos) ρ (.val (g x)) ρ1 := by
  obtain ⟨pp, g, fd, ps, hp, F, hb⟩ := pr.ex
  exact pd_prop ho R.rc.cl hp F hb hr ⟨x, rfl, rfl⟩ hk hab
theorem q_ptop (R : Ro X.prog X.w X.K X.mg X.base C) (hr : Room j X.A) (ho : PD X e ρ (.val (qD C x)) ρ1) (hk : 2 ≤ j := by decide) (hab : attributeBase e "top" X.env (eval e X.env) = eval e X.env := by rfl) : PD X (.Attribute e "top" pos) ρ (.val (.int x.num)) ρ1 := q_prop R hr R.ptop ho hk hab
theorem q_pbot (R : Ro X.prog X.w X.K X.mg X.base C) (hr : Room j X.A) (ho : PD X e ρ (.val (qD C x)) ρ1) (hk : 2 ≤ j := by decide) (hab : attributeBase e "bottom" X.env (eval e X.env) = eval e X.env := by rfl) : PD X (.Attribute e "bottom" pos) ρ (.val (.int (x.den : Int))) ρ1 := q_prop R hr R.pbot ho hk hab
theorem q_psgn (R : Ro X.prog X.w X.K X.mg X.base C) (hr : Room j X.A) (ho : PD X e ρ (.val (qD C x)) ρ1) (hk : 2 ≤ j := by decide) (hab : attributeBase e "sign" X.env (eval e X.env) = eval e X.env := by rfl) : PD X (.Attribute e "sign" pos) ρ (.val (.int (qsgn x))) ρ1 := q_prop R hr R.psgn ho hk hab
theorem q_pwho (R : Ro X.prog X.w X.K X.mg X.base C) (hr : Room j X.A) (ho : PD X e ρ (.val (qD C x)) ρ1) (hk : 2 ≤ j := by decide) (hab : attributeBase e "is_whole" X.env (eval e X.env) = eval e X.env := by rfl) : PD X (.Attribute e "is_whole" pos) ρ (.val (.bl (decide ((x.den : Int) = 1)))) ρ1 := q_prop R hr R.pwho ho hk hab
end
end Dn
end

section
set_option Elab.async false
set_option linter.all false
set_option maxRecDepth 100000
set_option maxHeartbeats 2000000
set_option exponentiation.threshold 10000
namespace Dn
open PySem PySem.Spec L2
theorem str_nil (a : Str) : a ++ Str.ofString "" = a := by
  show Str.mk (a.cps ++ #[]) = a
  rw [Array.append_empty]
theorem listText_le (ts : List Str) : (listText ts).length ≤ 2 + piled ts := by
  cases ts with
  | nil => decide
  | cons t r =>
    have h := textFrom_length_pos r 1 (("[" : Str) ++ (if (0 : Nat) > 0 then ", " else "" : String) ++ t) (Nat.succ_pos 0)
    have e : ((("[" : Str) ++ (if (0 : Nat) > 0 then ", " else "" : String) ++ t)).length = 1 + t.length := by
      rw [strLen_append, strLen_append]
      rfl
    have hX : (listText (t :: r)).length = (textFrom 1 (("[" : Str) ++ (if (0 : Nat) > 0 then ", " else "" : String) ++ t) r).length + 1 := by
      show (textFrom 1 (("[" : Str) ++ (if (0 : Nat) > 0 then ", " else "" : String) ++ t) r ++ "]").length = _
      rw [strLen_append]
      rfl
    rw [hX, h, e, piled_cons]
    omega
section
variable {P : Program} {w : World} {K : PySem.W.Frag} {mg : Str → Option Value} {base : Heap} {f C : Addr} {fd : FuncData}
def S_law_is (C : Addr) : List D → Res → Prop := fun ds r => ∃ x : Rat, ds = [qD C x, qP x] ∧ Sz 1800 x ∧ r = .val (.bl true)
theorem ok_law_is (F : FunG K "_law_is" "_law_is" s_law_is f fd) (R : Ro P w K mg base C) (hrp : mg "repr" = none) : FnB true P w K mg base 5 f fd ["_law_told", "_law_pair"] (spD K (S_law_is C)) := by
  refine fnD F cs_law_is (fun ds r ⟨_, h, _⟩ => by rw [h]; rfl) (fun cdv A outer s H hr nog ds r h => ?_)
  obtain ⟨x, rfl, hx, rfl⟩ := h
  have nd := cs_law_is.nd
  have l1 := len_str hx.1
  have l2 := len_str hx.2
  have g1 := hx.1.log (m := 1920) (by decide)
  have g2 := hx.2.log (m := 1920) (by decide)
  refine psd_skip (ptd_notF (ptd_bl (pd_callB (cd_isi (R.rc.ty _) (.own C) R.rc.oo) R.bi.isi (pad_cons (pd_var 0) (pad_cons (pd_glob R.rc.at_) pad_nil))))) ?_
  refine psd_cons (fun ρ' => ρ' = [.val (qD C x), .val (qP x), .val (.int (qsgn x)), .non]) ?_ fun ρ' e => ?_
  · unfold qsgn
    by_cases h1 : 0 < x.num
    · rw [if_pos h1]
      exact ps1_set 2 nd (pd_ifT (ptd_eq (ptd_cmp (pd_ixT (pd_var 1) pd_int rfl) pd_int bd_gt rfl) (decide_eq_true h1)) pd_int)
    · rw [if_neg h1]
      by_cases h2 : x.num < 0
      · rw [if_pos h2]
        exact ps1_set 2 nd (pd_ifF (ptd_eq (ptd_cmp (pd_ixT (pd_var 1) pd_int rfl) pd_int bd_gt rfl) (decide_eq_false h1)) (pd_ifT (ptd_eq (ptd_cmp (pd_ixT (pd_var 1) pd_int rfl) pd_int bd_lt rfl) (decide_eq_true h2)) (pd_un pd_int un_negD)))
      · rw [if_neg h2]
        exact ps1_set 2 nd (pd_ifF (ptd_eq (ptd_cmp (pd_ixT (pd_var 1) pd_int rfl) pd_int bd_gt rfl) (decide_eq_false h1)) (pd_ifF (ptd_eq (ptd_cmp (pd_ixT (pd_var 1) pd_int rfl) pd_int bd_lt rfl) (decide_eq_false h2)) pd_int))
  subst e
  refine psd_cons (fun ρ' => ρ' = [.val (qD C x), .val (qP x), .val (.int (qsgn x)), .val (.str (qstr x))]) ?_ fun ρ' e => ?_
  · unfold qstr
    by_cases h1 : (x.den : Int) = 1
    · rw [if_pos h1]
      refine ps1_set 3 nd (pd_bin (pd_callTy (cd_strI g1) R.bi.str (pad_cons (pd_ixT (pd_var 1) pd_int rfl) pad_nil)) (pd_ifT (ptd_eq (ptd_cmp (pd_ixT (pd_var 1) pd_int rfl) pd_int bd_eqI rfl) (decide_eq_true h1)) pd_str) (bd_cat (by show _ + 0 ≤ _; omega))) ?_
      show _ = _
      rw [str_nil]
      rfl
    · rw [if_neg h1, str_assoc]
      exact ps1_set 3 nd (pd_bin (pd_callTy (cd_strI g1) R.bi.str (pad_cons (pd_ixT (pd_var 1) pd_int rfl) pad_nil)) (pd_ifF (ptd_eq (ptd_cmp (pd_ixT (pd_var 1) pd_int rfl) pd_int bd_eqI rfl) (decide_eq_false h1)) (pd_bin pd_str (pd_callTy (cd_strI g2) R.bi.str (pad_cons (pd_ixT (pd_var 1) pd_int rfl) pad_nil)) (bd_cat (by show 1 + _ ≤ _; omega)))) (bd_cat (by rw [strLen_append]; show _ + (1 + _) ≤ _; omega)))
  subst e
  have sg : (qsgn x).natAbs.log2 < 1920 := by unfold qsgn; split <;> (try split) <;> decide
  have lg := len_str (k := 2) (n := qsgn x) (by unfold qsgn Bd; split <;> (try split) <;> decide)
  refine psd_skip (ptd_eq (ptd_cmp (pd_callB (cd_reprL (nog rfl) (.cons (.int _) (.cons (.int _) (.cons (.int _) (.cons (.bl _) .nil)))) (by simp) ?sh ?sz hr) hrp (pad_cons (pd_still (pd_lst (pad_cons (q_ptop R hr (pd_var 0)) (pad_cons (q_pbot R hr (pd_var 0)) (pad_cons (q_psgn R hr (pd_var 0)) (pad_cons (q_pwho R hr (pd_var 0)) pad_nil)))))) pad_nil))
    (pd_callB (cd_reprL (nog rfl) (.cons (.int _) (.cons (.int _) (.cons (.int _) (.cons (.bl _) .nil)))) (by simp) ?sh ?sz hr) hrp (pad_cons (pd_still (pd_lst (pad_cons (pd_ixT (pd_var 1) pd_int rfl) (pad_cons (pd_ixT (pd_var 1) pd_int rfl) (pad_cons (pd_var 2) (pad_cons (pd_cmp (pd_ixT (pd_var 1) pd_int rfl) pd_int bd_eqI rfl) pad_nil)))))) pad_nil)) bd_neS rfl) (by rw [decide_eq_true rfl]; rfl)) ?_
  case sh =>
    show (decide _ && (decide _ && (decide _ && (true && true)))) = true
    rw [decide_eq_true g1, decide_eq_true g2, decide_eq_true sg]
    rfl
  case sz =>
    refine Nat.le_trans (listText_le _) ?_
    have lb : ∀ b : Bool, (PyData.shown (.bool b)).length ≤ 5 := fun b => by cases b <;> decide
    have lb := lb (decide ((x.den : Int) = 1))
    show 2 + piled [_, _, _, _] ≤ _
    rw [piled_cons, piled_cons, piled_cons, piled_cons, piled_nil, sizeLine_eq]
    show 2 + (((Str.ofString (toString x.num)).length + 2) + (((Str.ofString (toString (x.den : Int))).length + 2) + (((Str.ofString (toString (qsgn x))).length + 2) + (((PyData.shown (.bool _)).length + 2) + 0)))) ≤ _
    omega
  refine psd_ret (pd_and (pd_cmp (pd_callTy (q_str R hr (hx.mono (by decide))) R.bi.str (pad_cons (pd_var 0) pad_nil)) (pd_var 3) bd_eqS rfl) fun _ => pd_one (pd_cmp (pd_callB (q_repr R hr (hx.mono (by decide))) hrp (pad_cons (pd_var 0) pad_nil))
    (pd_bin (pd_bin (pd_bin (pd_bin pd_str (pd_callTy (cd_strI g1) R.bi.str (pad_cons (pd_ixT (pd_var 1) pd_int rfl) pad_nil)) (bd_cat (by show 6 + _ ≤ _; omega))) pd_str (bd_cat (by rw [strLen_append]; show (6 + _) + 2 ≤ _; omega))) (pd_callTy (cd_strI g2) R.bi.str (pad_cons (pd_ixT (pd_var 1) pd_int rfl) pad_nil)) (bd_cat (by rw [strLen_append, strLen_append]; show ((6 + _) + 2) + _ ≤ _; omega))) pd_str (bd_cat (by rw [strLen_append, strLen_append, strLen_append]; show (((6 + _) + 2) + _) + 1 ≤ _; omega))) bd_eqS rfl)) ?_
  refine congrArg (fun q => Res.val (D.bl q)) ?_
  rw [decide_eq_true rfl]
  exact decide_eq_true rfl
end
end Dn
end

section
set_option Elab.async false
set_option linter.all false
set_option maxRecDepth 100000
set_option maxHeartbeats 2000000
set_option exponentiation.threshold 10000
namespace Dn
open PySem PySem.Spec L2
theorem pd_cast {X : Cx} {e : Expr} {ρ ρ1 : Rho} {d d' : D} (h : PD X e ρ (.val d) ρ1) (q : d = d') : PD X e ρ (.val d') ρ1 := q ▸ h
theorem pd_blc {X : Cx} {e : Expr} {ρ ρ1 : Rho} {b b' : Bool} (h : PD X e ρ (.val (.bl b)) ρ1) (q : b = b') : PD X e ρ (.val (.bl b')) ρ1 := q ▸ h
/-- all([e for x in it]), e true at each -/
theorem pd_allT {X : Cx} {scope : Scope} {elt tg iter : Expr} {ρ ρ1 : Rho} {xs : List D} {ts : List Nat} {f : D → Rho → Rho → Prop} {pos p pos2 : Pos} (own : List (Str × Nat)) (hN : X.N.Nodup) (hm : X.mg "all" = none) (hi : PID X tg iter ρ xs ρ1) (hg : PGDb X scope tg ts f)
    (ht : ∀ (i : Nat) (d : D), xs[i]? = some d → ∃ ρ2 ρ3, f d (wipeR ρ1 (own.map (·.2))) ρ2 ∧ PDb X scope elt ρ2 (.val (.bl true)) ρ3 ∧ wipeR ρ3 (own.map (·.2)) = wipeR ρ1 (own.map (·.2)))
    (hz : xs.length ≤ 1000000) (ok : BlkOk X.N X.env.scope scope own := by exact blkOk_by rfl) (hts : ∀ t ∈ ts, t ∈ own.map (·.2) := by decide) (hv0 : ∀ v ∈ own.map (·.2), v ≠ 0 := by decide) (hc : X.calm = true := by rfl) (hs : ∀ x, foldedSetIterable iter X.env x = pure x := by intro _; rfl)
    (hgl : Gl X "all" := by rfl) (he : starEach [.ListComp elt [⟨tg, iter, [], 0⟩] scope pos] X.env = (false, eval (.ListComp elt [⟨tg, iter, [], 0⟩] scope pos) X.env) :: starEach [] X.env := by rfl)
    (hpl : (backTo pos2 (starEach [] X.env)).any (·.1) = false := by rfl) :
    PD X (.Call (.Name "all" p) [.ListComp elt [⟨tg, iter, [], 0⟩] scope pos] [] pos2) ρ (.val (.bl true)) (wipeR ρ1 (own.map (·.2))) := by
  have e : (xs.map fun _ => true).all id = true := by
    rw [List.all_eq_true]
    intro b hb
    obtain ⟨_, _, rfl⟩ := List.mem_map.mp hb
    rfl
  have c := cd_all (X := X) (bs := xs.map fun _ => true) hc
  rw [e] at c
  refine pd_callB c hm (pad_cons (pd_still (pd_map (ys := (xs.map fun _ => true).map D.bl) own hN hi hg (by rw [List.length_map, List.length_map]) (fun i d y h1 h2 => ?_) hz ok hts hv0 hc hs)) pad_nil he) (hg := hgl) (he := he) (hpl := hpl)
  rw [List.map_map, List.getElem?_map, h1] at h2
  cases h2
  exact ht i d h1
theorem q_eqm {x y : Rat} : decide (x.num * y.den = y.num * x.den) = decide (x = y) := by
  rw [decide_eq_decide, Rat.eq_iff_mul_eq_mul]
theorem sz_abs {n : Nat} {x : Rat} (h : Sz n x) : Sz n (qabs x) := by
  unfold qabs
  split
  · exact h.neg
  · exact h
def rowD (C : Addr) (z : Rat) : D := .tup [qD C z, qP z]
section
variable {P : Program} {w : World} {K : PySem.W.Frag} {mg : Str → Option Value} {base : Heap} {f C : Addr} {fd : FuncData}
/-- (told, _law_low(t, u)) -/
theorem pd_row {X : Cx} {gd : Bool} {j : Nat} {C : Addr} {z : Rat} {t u : Int} {ρ : Rho} {e a b : Expr} {p q pos : Pos} {kk : Nat} (cl : Cal gd X.prog X.w X.K X.mg X.base 1 "_law_low" (spD X.K S_low) []) (hr : Room j X.A) (he : PD X e ρ (.val (qD C z)) ρ) (ha : PD X a ρ (.val (.int t)) ρ) (hb : PD X b ρ (.val (.int u)) ρ) (hu : u ≠ 0) (hz : Bd 8000 u) (hq : Rat.divInt t u = z) (nog : gd = true → X.A.guards = some []) (hk : 1 ≤ j := by decide) (hg : Gl X "_law_low" := by rfl)
    (h1 : starEach [a, b] X.env = (false, eval a X.env) :: starEach [b] X.env := by rfl) (h2 : starEach [b] X.env = (false, eval b X.env) :: starEach [] X.env := by rfl) (h3 : (backTo q (starEach [b] X.env)).any (·.1) = false := by rfl) (h4 : starEach [e, .Call (.Name "_law_low" p) [a, b] [] q] X.env = (false, eval e X.env) :: starEach [.Call (.Name "_law_low" p) [a, b] [] q] X.env := by rfl) (h5 : starEach [.Call (.Name "_law_low" p) [a, b] [] q] X.env = (false, eval (.Call (.Name "_law_low" p) [a, b] [] q) X.env) :: starEach [] X.env := by rfl) :
    PD X (.Tuple [e, .Call (.Name "_law_low" p) [a, b] [] q] kk pos) ρ (.val (rowD C z)) ρ := by
  refine pd_tup (pad_cons he (pad_cons ?_ pad_nil h5) h4)
  exact pd_call cl hr (pad_cons ha (pad_cons hb pad_nil h2) h1) ⟨t, u, rfl, hu, hz, by rw [hq]⟩ (hdv := fun _ => .nil) (nog := nog) (hk := hk) (hg := hg) (he := h1) (hpl := h3)
def S_pair_right (C : Addr) : List D → Res → Prop := fun ds r => ∃ x y : Rat, ds = [qP x, qP y, qD C x, qD C y] ∧ Sz 100 x ∧ Sz 100 y ∧ r = .val (.bl true)
theorem ok_law_pair_right (F : FunG K "_law_pair_right" "_law_pair_right" s_law_pair_right f fd) (R : Ro P w K mg base C) (cl : Cal true P w K mg base 1 "_law_low" (spD K S_low) []) (ci : Cal true P w K mg base 5 "_law_is" (spD K (S_law_is C)) []) (hal : mg "all" = none) (hrp : mg "repr" = none) :
    FnB true P w K mg base 6 f fd ["_law_one", "_law_other", "_law_near", "_law_far"] (spD K (S_pair_right C)) := by
  refine fnD F cs_law_pair_right (fun ds r ⟨_, _, h, _⟩ => by rw [h]; rfl) (fun cdv A outer s H hr nog ds r h => ?_)
  obtain ⟨x, y, rfl, hx, hy, rfl⟩ := h
  have nd := cs_law_pair_right.nd
  have hx9 : Sz 900 x := hx.mono (by decide)
  have hy9 : Sz 900 y := hy.mono (by decide)
  have bdn := (hx.2.mul hy.2).mono (n := 8000) (by decide)
  have ne := mul_ne (den_ne x) (den_ne y)
  have z1 := (hx.add hy).mono (n := 1800) (by decide)
  have z2 := (hx.sub hy).mono (n := 1800) (by decide)
  have z3 := (hx.mul hy).mono (n := 1800) (by decide)
  refine psd_st (ps1_two 4 5 nd (pd_var 0)) ?_
  refine psd_st (ps1_two 6 7 nd (pd_var 1)) ?_
  refine psd_st (ps1_set 8 nd (pd_lst (pad_cons (pd_row cl hr (pd_still (pd_bin (pd_var 2) (pd_var 3) (q_add R hr hx9 hy9))) (pd_bin (pd_bin (pd_var 4) (pd_var 7) (bd_mul (hx.1.cmul hy.2))) (pd_bin (pd_var 6) (pd_var 5) (bd_mul (hy.1.cmul hx.2))) bd_add) (pd_bin (pd_var 5) (pd_var 7) (bd_mul (hx.2.cmul hy.2))) ne bdn (of_add x y) nog)
    (pad_cons (pd_row cl hr (pd_still (pd_bin (pd_var 2) (pd_var 3) (q_sub R hr hx9 hy9))) (pd_bin (pd_bin (pd_var 4) (pd_var 7) (bd_mul (hx.1.cmul hy.2))) (pd_bin (pd_var 6) (pd_var 5) (bd_mul (hy.1.cmul hx.2))) bd_sub) (pd_bin (pd_var 5) (pd_var 7) (bd_mul (hx.2.cmul hy.2))) ne bdn (of_sub x y) nog) pad_nil)))) ?_
  refine psd_st (ps1_append 8 (pd_row cl hr (pd_still (pd_bin (pd_var 2) (pd_var 3) (q_mul R hr hx9 hy9))) (pd_bin (pd_var 4) (pd_var 6) (bd_mul (hx.1.cmul hy.1))) (pd_bin (pd_var 5) (pd_var 7) (bd_mul (hx.2.cmul hy.2))) ne bdn (of_mul x y) nog) (hz := by show 2 ≤ _; decide)) ?_
  refine psd_cons (fun ρ' => ∃ zs : List Rat, (∀ z ∈ zs, Sz 1800 z) ∧ zs.length ≤ 5 ∧ ρ' = [.val (qP x), .val (qP y), .val (qD C x), .val (qD C y), .val (.int x.num), .val (.int (x.den : Int)), .val (.int y.num), .val (.int (y.den : Int)), .own (.lst (zs.map (rowD C))), .non, .non, .non]) ?_ ?_
  · by_cases h0 : y = 0
    · refine ps1_if (ptd_eq (ptd_cmp (pd_var 6) pd_int bd_neI rfl) (k' := false) (by subst h0; rfl)) (fun z => nomatch z) fun _ => psd_nil ⟨[x + y, x - y, x * y], ?_, Nat.le_of_ble_eq_true rfl, rfl⟩
      intro z hz
      simp only [List.mem_cons, List.not_mem_nil, or_false] at hz
      rcases hz with rfl | rfl | rfl <;> assumption
    · have z4 := (hx.div hy h0).mono (n := 1800) (by decide)
      have ne2 := mul_ne (den_ne x) (num_ne h0)
      have bd2 := (hx.2.mul hy.1).mono (n := 8000) (by decide)
      refine ps1_if (ptd_eq (ptd_cmp (pd_var 6) pd_int bd_neI rfl) (k' := true) (by rw [decide_eq_false (num_ne h0)]; rfl)) (fun _ => ?_) (fun z => nomatch z)
      refine psd_st (ps1_append 8 (pd_row cl hr (pd_still (pd_meth R.over hr (pd_var 2) rfl (pad_cons (pd_var 3) pad_nil) ⟨x, _, y, rfl, .q y, hx9, hy9, h0, rfl⟩)) (pd_bin (pd_var 4) (pd_var 7) (bd_mul (hx.1.cmul hy.2))) (pd_bin (pd_var 5) (pd_var 6) (bd_mul (hx.2.cmul hy.1))) ne2 bd2 (of_div x y) nog) (hz := by show 3 ≤ _; decide)) ?_
      refine psd_st (ps1_append 8 (pd_row cl hr (pd_still (pd_methK R.overK hr (pd_var 2) rfl (pkd_cons (pd_var 3) pkd_nil) ⟨x, _, y, rfl, .q y, hx9, hy9, h0, rfl⟩)) (pd_bin (pd_var 4) (pd_var 7) (bd_mul (hx.1.cmul hy.2))) (pd_bin (pd_var 5) (pd_var 6) (bd_mul (hx.2.cmul hy.1))) ne2 bd2 (of_div x y) nog) (hz := by show 4 ≤ _; decide)) (psd_nil ⟨[x + y, x - y, x * y, x / y, x / y], ?_, Nat.le_of_ble_eq_true rfl, rfl⟩)
      intro z hz
      simp only [List.mem_cons, List.not_mem_nil, or_false] at hz
      rcases hz with rfl | rfl | rfl | rfl | rfl <;> assumption
  rintro ρ' ⟨zs, hzs, hzl, rfl⟩
  refine psd_st (ps1_extend 8 (pd_still (pd_lst (pad_cons (pd_row cl hr (pd_still (pd_un (pd_var 2) (q_neg R hr hx9))) (pd_bin pd_int (pd_var 4) bd_sub) (pd_var 5) (den_ne x) (hx.2.mono (by decide)) (of_neg x) nog)
    (pad_cons (pd_row cl hr (pd_still (pd_meth0 R.size hr (pd_var 2) rfl ⟨x, rfl, hx9, rfl⟩)) (pd_callB cd_abs R.bi.abs (pad_cons (pd_var 4) pad_nil)) (pd_var 5) (den_ne x) (hx.2.mono (by decide)) (of_abs x) nog) pad_nil)))) (hz := by rw [List.length_map]; show _ + 2 ≤ _; omega)) ?_
  refine psd_still 8 rfl ?_
  have all : ∀ (i : Nat) (d : D), (zs.map (rowD C) ++ [rowD C (-x), rowD C (qabs x)])[i]? = some d → ∃ z, d = rowD C z ∧ Sz 1800 z := fun i d hd => by
    have m := List.mem_of_getElem? hd
    rcases List.mem_append.mp m with m | m
    · obtain ⟨z, hz, rfl⟩ := List.mem_map.mp m
      exact ⟨z, rfl, hzs z hz⟩
    · simp only [List.mem_cons, List.not_mem_nil, or_false] at m
      rcases m with rfl | rfl
      · exact ⟨_, rfl, hx.neg.mono (by decide)⟩
      · exact ⟨_, rfl, (sz_abs hx).mono (by decide)⟩
  refine psd_skip (ptd_notF (ptd_bl (pd_allT [("_law_told", 10), ("_law_due", 11)] nd hal (pid_list (pd_var 8)) (fun s H C cl fp => pgd_tup (n := 2) rfl (pgd_cons (pgd_name 10 nd) (pgd_cons (pgd_name 11 nd) pgd_nil))) (fun i d hd => ?_) (by rw [List.length_append, List.length_map]; show _ + 2 ≤ _; omega)))) ?_
  · obtain ⟨z, rfl, hz⟩ := all i d hd
    exact ⟨_, _, ⟨_, .inl rfl, rfl, _, _, _, rfl, rfl, _, _, _, rfl, rfl, rfl, rfl⟩, fun s H C cl fp => pd_call ci hr (pad_cons (pd_var 10) (pad_cons (pd_var 11) pad_nil)) ⟨z, rfl, hz, rfl⟩ (nog := nog), rfl⟩
  refine psd_st (ps1_set 9 nd (pd_still (pd_lst (pad_cons (pd_meth R.below hr (pd_var 2) rfl (pad_cons (pd_var 3) pad_nil) ⟨x, _, y, rfl, .q y, hx9, hy9, rfl⟩) (pad_cons (pd_meth R.most hr (pd_var 2) rfl (pad_cons (pd_var 3) pad_nil) ⟨x, _, y, rfl, .q y, hx9, hy9, rfl⟩)
    (pad_cons (pd_methK R.belowK hr (pd_var 2) rfl (pkd_cons (pd_var 3) pkd_nil) ⟨x, _, y, rfl, .q y, hx9, hy9, rfl⟩) (pad_cons (pd_cmp (pd_var 2) (pd_var 3) (q_eqQ R hr) rfl) (pad_cons (pd_cmp (pd_var 2) (pd_var 3) (q_neQ R hr) rfl) pad_nil)))))))) ?_
  have pl : ∀ b1 b2 b3 b4 b5 : Bool, Pls [.bl b1, .bl b2, .bl b3, .bl b4, .bl b5] [.bool b1, .bool b2, .bool b3, .bool b4, .bool b5] := fun _ _ _ _ _ => .cons (.bl _) (.cons (.bl _) (.cons (.bl _) (.cons (.bl _) (.cons (.bl _) .nil))))
  have sz5 : ∀ b1 b2 b3 b4 b5 : Bool, (listText (PyData.shownAll [.bool b1, .bool b2, .bool b3, .bool b4, .bool b5])).length ≤ sizeLine := by decide +kernel
  refine psd_ret (pd_blc (pd_cmp (pd_callB (cd_reprL (nog rfl) (pl _ _ _ _ _) (by simp) rfl (sz5 _ _ _ _ _) hr) hrp (pad_cons (pd_var 9) pad_nil))
    (pd_callB (cd_reprL (nog rfl) (pl _ _ _ _ _) (by simp) rfl (sz5 _ _ _ _ _) hr) hrp (pad_cons (pd_still (pd_lst (pad_cons (pd_blc (pd_cmp (pd_bin (pd_var 4) (pd_var 7) (bd_mul (hx.1.cmul hy.2))) (pd_bin (pd_var 6) (pd_var 5) (bd_mul (hy.1.cmul hx.2))) bd_lt rfl) q_lt)
      (pad_cons (pd_blc (pd_cmp (pd_bin (pd_var 4) (pd_var 7) (bd_mul (hx.1.cmul hy.2))) (pd_bin (pd_var 6) (pd_var 5) (bd_mul (hy.1.cmul hx.2))) bd_le rfl) q_le)
      (pad_cons (pd_blc (pd_cmp (pd_bin (pd_var 4) (pd_var 7) (bd_mul (hx.1.cmul hy.2))) (pd_bin (pd_var 6) (pd_var 5) (bd_mul (hy.1.cmul hx.2))) bd_lt rfl) q_lt)
      (pad_cons (pd_blc (pd_cmp (pd_bin (pd_var 4) (pd_var 7) (bd_mul (hx.1.cmul hy.2))) (pd_bin (pd_var 6) (pd_var 5) (bd_mul (hy.1.cmul hx.2))) bd_eqI rfl) q_eqm)
      (pad_cons (pd_blc (pd_cmp (pd_bin (pd_var 4) (pd_var 7) (bd_mul (hx.1.cmul hy.2))) (pd_bin (pd_var 6) (pd_var 5) (bd_mul (hy.1.cmul hx.2))) bd_neI rfl) (congrArg not q_eqm)) pad_nil))))))) pad_nil)) bd_eqS rfl) (decide_eq_true rfl)) rfl
end
end Dn
end

section
set_option Elab.async false
set_option linter.all false
set_option maxRecDepth 100000
set_option maxHeartbeats 2000000
set_option exponentiation.threshold 10000
namespace Dn
open PySem PySem.Spec L2
theorem of_addI (x : Rat) (n : Int) : Rat.divInt (x.num + n * x.den) x.den = x + n := by simpa using of_add x n
theorem of_subI (x : Rat) (n : Int) : Rat.divInt (x.num - n * x.den) x.den = x - n := by simpa using of_sub x n
theorem of_Isub (x : Rat) (n : Int) : Rat.divInt (n * x.den - x.num) x.den = n - x := by simpa using of_sub n x
theorem of_mulI (x : Rat) (n : Int) : Rat.divInt (x.num * n) x.den = x * n := by simpa using of_mul x n
theorem of_divI (x : Rat) (n : Int) : Rat.divInt x.num (x.den * n) = x / n := by simpa using of_div x n
theorem q_ltI {x : Rat} {n : Int} : decide (x.num < n * x.den) = decide (x < (n : Rat)) := by
  rw [decide_eq_decide, Rat.lt_iff]
  simp
theorem q_leI {x : Rat} {n : Int} : decide (x.num ≤ n * x.den) = decide (x ≤ (n : Rat)) := by
  rw [decide_eq_decide, Rat.le_iff]
  simp
section
variable {P : Program} {w : World} {K : PySem.W.Frag} {mg : Str → Option Value} {base : Heap} {f C : Addr} {fd : FuncData}
def S_whole_right (C : Addr) : List D → Res → Prop := fun ds r => ∃ (x : Rat) (n : Int), ds = [qP x, qD C x, .int n] ∧ Sz 100 x ∧ Bd 11 n ∧ r = .val (.bl true)
theorem ok_law_whole_right (F : FunG K "_law_whole_right" "_law_whole_right" s_law_whole_right f fd) (R : Ro P w K mg base C) (cl : Cal true P w K mg base 1 "_law_low" (spD K S_low) []) (ci : Cal true P w K mg base 5 "_law_is" (spD K (S_law_is C)) []) (hal : mg "all" = none) (hrp : mg "repr" = none) :
    FnB true P w K mg base 6 f fd ["_law_one", "_law_near", "_law_whole"] (spD K (S_whole_right C)) := by
  refine fnD F cs_law_whole_right (fun ds r ⟨_, _, h, _⟩ => by rw [h]; rfl) (fun cdv A outer s H hr nog ds r h => ?_)
  obtain ⟨x, n, rfl, hx, hn, rfl⟩ := h
  have nd := cs_law_whole_right.nd
  have hx9 : Sz 900 x := hx.mono (by decide)
  have hn1 : Sz 100 (n : Rat) := sz_int (hn.mono (by decide)) (by decide)
  have hn9 : Sz 900 (n : Rat) := hn1.mono (by decide)
  have bdn := hx.2.mono (n := 8000) (by decide)
  have ne := den_ne x
  have z1 := (hx.add hn1).mono (n := 1800) (by decide)
  have z2 := (hx.sub hn1).mono (n := 1800) (by decide)
  have z3 := (hx.mul hn1).mono (n := 1800) (by decide)
  have z4 := (hn1.sub hx).mono (n := 1800) (by decide)
  have cm := hn.cmul hx.2
  refine psd_st (ps1_two 3 4 nd (pd_var 0)) ?_
  refine psd_st (ps1_set 5 nd (pd_lst (pad_cons (pd_row cl hr (pd_still (pd_bin (pd_var 1) (pd_var 2) (q_addI R hr hx9 hn9))) (pd_bin (pd_var 3) (pd_bin (pd_var 2) (pd_var 4) (bd_mul cm)) bd_add) (pd_var 4) ne bdn (of_addI x n) nog)
    (pad_cons (pd_row cl hr (pd_still (pd_bin (pd_var 2) (pd_var 1) (q_Iadd R hr hx9 hn9))) (pd_bin (pd_var 3) (pd_bin (pd_var 2) (pd_var 4) (bd_mul cm)) bd_add) (pd_var 4) ne bdn (of_addI x n) nog) pad_nil)))) ?_
  refine psd_st (ps1_extend 5 (pd_still (pd_lst (pad_cons (pd_row cl hr (pd_still (pd_bin (pd_var 1) (pd_var 2) (q_subI R hr hx9 hn9))) (pd_bin (pd_var 3) (pd_bin (pd_var 2) (pd_var 4) (bd_mul cm)) bd_sub) (pd_var 4) ne bdn (of_subI x n) nog)
    (pad_cons (pd_row cl hr (pd_still (pd_bin (pd_var 2) (pd_var 1) (q_Isub R hr hx9 hn9))) (pd_bin (pd_bin (pd_var 2) (pd_var 4) (bd_mul cm)) (pd_var 3) bd_sub) (pd_var 4) ne bdn (of_Isub x n) nog) pad_nil)))) (hz := by show 2 + 2 ≤ _; decide)) ?_
  refine psd_st (ps1_extend 5 (pd_still (pd_lst (pad_cons (pd_row cl hr (pd_still (pd_bin (pd_var 1) (pd_var 2) (q_mulI R hr hx9 hn9))) (pd_bin (pd_var 3) (pd_var 2) (bd_mul (hx.1.cmul hn))) (pd_var 4) ne bdn (of_mulI x n) nog)
    (pad_cons (pd_row cl hr (pd_still (pd_bin (pd_var 2) (pd_var 1) (q_Imul R hr hx9 hn9))) (pd_bin (pd_var 3) (pd_var 2) (bd_mul (hx.1.cmul hn))) (pd_var 4) ne bdn (of_mulI x n) nog) pad_nil)))) (hz := by show 4 + 2 ≤ _; decide)) ?_
  refine psd_cons (fun ρ' => ∃ zs : List Rat, (∀ z ∈ zs, Sz 1800 z) ∧ zs.length ≤ 7 ∧ ρ' = [.val (qP x), .val (qD C x), .val (.int n), .val (.int x.num), .val (.int (x.den : Int)), .own (.lst (zs.map (rowD C))), .non, .non, .non]) ?_ ?_
  · by_cases h0 : n = 0
    · refine ps1_if (ptd_eq (ptd_cmp (pd_var 2) pd_int bd_neI rfl) (k' := false) (by subst h0; rfl)) (fun z => nomatch z) fun _ => psd_nil ⟨[x + n, x + n, x - n, n - x, x * n, x * n], ?_, Nat.le_of_ble_eq_true rfl, rfl⟩
      intro z hz
      simp only [List.mem_cons, List.not_mem_nil, or_false] at hz
      rcases hz with rfl | rfl | rfl | rfl | rfl | rfl <;> assumption
    · have hq : (n : Rat) ≠ 0 := fun e => h0 (by simpa using e)
      have z5 := (hx.div hn1 hq).mono (n := 1800) (by decide)
      have ne2 := mul_ne (den_ne x) h0
      have bd2 := (hx.2.mul hn).mono (n := 8000) (by decide)
      refine ps1_if (ptd_eq (ptd_cmp (pd_var 2) pd_int bd_neI rfl) (k' := true) (by rw [decide_eq_false h0]; rfl)) (fun _ => ?_) (fun z => nomatch z)
      refine psd_st (ps1_append 5 (pd_row cl hr (pd_still (pd_meth R.over hr (pd_var 1) rfl (pad_cons (pd_var 2) pad_nil) ⟨x, _, n, rfl, .i n, hx9, hn9, hq, rfl⟩)) (pd_var 3) (pd_bin (pd_var 4) (pd_var 2) (bd_mul (hx.2.cmul hn))) ne2 bd2 (of_divI x n) nog) (hz := by show 6 ≤ _; decide)) (psd_nil ⟨[x + n, x + n, x - n, n - x, x * n, x * n, x / n], ?_, Nat.le_of_ble_eq_true rfl, rfl⟩)
      intro z hz
      simp only [List.mem_cons, List.not_mem_nil, or_false] at hz
      rcases hz with rfl | rfl | rfl | rfl | rfl | rfl | rfl <;> assumption
  rintro ρ' ⟨zs, hzs, hzl, rfl⟩
  refine psd_still 5 rfl ?_
  refine psd_skip (ptd_notF (ptd_bl (pd_allT [("_law_told", 7), ("_law_due", 8)] nd hal (pid_list (pd_var 5)) (fun s H C cl fp => pgd_tup (n := 2) rfl (pgd_cons (pgd_name 7 nd) (pgd_cons (pgd_name 8 nd) pgd_nil))) (fun i d hd => ?_) (by rw [List.length_map]; omega)))) ?_
  · obtain ⟨z, hz, rfl⟩ := List.mem_map.mp (List.mem_of_getElem? hd)
    exact ⟨_, _, ⟨_, .inl rfl, rfl, _, _, _, rfl, rfl, _, _, _, rfl, rfl, rfl, rfl⟩, fun s H C cl fp => pd_call ci hr (pad_cons (pd_var 7) (pad_cons (pd_var 8) pad_nil)) ⟨z, rfl, hzs z hz, rfl⟩ (nog := nog), rfl⟩
  have pl : ∀ b1 b2 : Bool, Pls [.bl b1, .bl b2] [.bool b1, .bool b2] := fun _ _ => .cons (.bl _) (.cons (.bl _) .nil)
  have sz2 : ∀ b1 b2 : Bool, (listText (PyData.shownAll [.bool b1, .bool b2])).length ≤ sizeLine := by decide +kernel
  refine psd_skip (ptd_eq (ptd_cmp (pd_callB (cd_reprL (nog rfl) (pl _ _) (by simp) rfl (sz2 _ _) hr) hrp (pad_cons (pd_still (pd_lst (pad_cons (pd_meth R.below hr (pd_var 1) rfl (pad_cons (pd_var 2) pad_nil) ⟨x, _, n, rfl, .i n, hx9, hn9, rfl⟩) (pad_cons (pd_meth R.most hr (pd_var 1) rfl (pad_cons (pd_var 2) pad_nil) ⟨x, _, n, rfl, .i n, hx9, hn9, rfl⟩) pad_nil)))) pad_nil))
    (pd_callB (cd_reprL (nog rfl) (pl _ _) (by simp) rfl (sz2 _ _) hr) hrp (pad_cons (pd_still (pd_lst (pad_cons (pd_blc (pd_cmp (pd_var 3) (pd_bin (pd_var 2) (pd_var 4) (bd_mul cm)) bd_lt rfl) q_ltI) (pad_cons (pd_blc (pd_cmp (pd_var 3) (pd_bin (pd_var 2) (pd_var 4) (bd_mul cm)) bd_le rfl) q_leI) pad_nil)))) pad_nil)) bd_neS rfl) (by rw [decide_eq_true rfl]; rfl)) ?_
  refine psd_st (ps1_set 6 nd (pd_still (pd_lst (pad_cons (pd_cmp (pd_var 1) (pd_var 2) (q_eqN R hr (.int n) R.qi) rfl) (pad_cons (pd_cmp (pd_var 1) (pd_callTy (q_str R hr (hx.mono (by decide))) R.bi.str (pad_cons (pd_var 1) pad_nil)) (q_eqN R hr (.str _) R.qs) rfl)
    (pad_cons (pd_cmp (pd_var 1) (pd_still pd_dct0) (q_eqN R hr (.dct _) R.qd) rfl) (pad_cons (pd_cmp (pd_var 1) (pd_still (pd_lst (pad_cons (pd_var 1) pad_nil))) (q_eqN R hr (.lst _) R.ql) rfl) (pad_cons (pd_cmp (pd_var 1) (pd_tup (pad_cons (pd_var 3) (pad_cons (pd_var 4) pad_nil))) (q_eqN R hr (.tup _) R.qt) rfl) pad_nil)))))))) ?_
  have pf : Pl (.lst [.bl false, .bl false, .bl false, .bl false, .bl false]) (.list [.bool false, .bool false, .bool false, .bool false, .bool false]) := .lst (.cons (.bl _) (.cons (.bl _) (.cons (.bl _) (.cons (.bl _) (.cons (.bl _) .nil)))))
  refine psd_ret (pd_blc (pd_and (pd_cmp (pd_var 6) (pd_cast (pd_still (pd_bin (pd_still (pd_lst (pad_cons pd_bl pad_nil))) pd_int (bd_repL (by decide) (by decide) (by decide)))) (d' := .lst [.bl false, .bl false, .bl false, .bl false, .bl false]) rfl) (bd_eqP pf pf rfl rfl hr) rfl) fun _ => pd_one (pd_cmp (pd_var 1) (pd_var 2) (q_neN R hr (.int n) R.qi) rfl)) (by decide)) rfl
end
end Dn
end

section
set_option Elab.async false
set_option linter.all false
set_option maxRecDepth 100000
set_option maxHeartbeats 4000000
set_option exponentiation.threshold 10000
namespace Dn
open PySem PySem.Spec L2
theorem sz_addA {m n : Nat} {x y : Rat} (h : Sz m x) (q : Sz n y) : Sz (m + n + 1) (x + y) := by
  rw [← of_add]
  exact sz_divInt (mul_ne (den_ne x) (den_ne y)) ((h.1.mul q.2).add ((q.1.mul h.2).mono (by omega))) ((h.2.mul q.2).mono (by omega))
theorem sz_fold : ∀ (xs : List Rat) (acc : Rat) (m : Nat), Sz m acc → (∀ x ∈ xs, Sz 100 x) → Sz (m + 101 * xs.length) (xs.foldl (· + ·) acc)
  | [], acc, m, h, _ => h
  | x :: xs, acc, m, h, hx => by
    have := sz_fold xs (acc + x) (m + 101) (sz_addA h (hx x (List.mem_cons_self ..))) fun y hy => hx y (List.mem_cons_of_mem _ hy)
    refine this.mono ?_
    rw [List.length_cons]
    omega
theorem sz_sums {xs : List Rat} (hx : ∀ x ∈ xs, Sz 100 x) (hl : xs.length ≤ 4) (i : Nat) : Sz 900 (qsum (xs.take i)) := by
  have z : Sz 1 (0 : Rat) := ⟨by unfold Bd; decide, by unfold Bd; decide⟩
  refine (sz_fold (xs.take i) 0 1 z fun x h => hx x (List.mem_of_mem_take h)).mono ?_
  rw [List.length_take]
  omega
def nums (p : Pot) : Nat → Pot
  | 0 => p
  | i + 1 => (num (nums p i)).2.2
theorem nums_ok {p : Pot} (ok : p.Ok) : ∀ i, (nums p i).Ok
  | 0 => ok
  | i + 1 => (num_ok (nums_ok ok i)).1
def drs (p : Pot) : Nat → Pot
  | 0 => p
  | i + 1 => (draw (drs p i) 2001).2
theorem drs_ok {p : Pot} (ok : p.Ok) : ∀ i, (drs p i).Ok
  | 0 => ok
  | i + 1 => (draw_ok (drs_ok ok i) (by decide)).2.2
def lastPot (p : Pot) : Pot := (draw (drs (nums p 3) 3) 1999).2
def tbD (q : Int × Int) : D := .tup [.int q.1, .int q.2]
def tbQ (q : Int × Int) : Rat := Rat.divInt q.1 q.2
def T_right : D → List D → Res → D → Prop := fun c ds r c' => ∃ p : Pot, c = potD p ∧ ds = [] ∧ p.Ok ∧ r = .val (.bl true) ∧ c' = potD (lastPot p)
section
variable {P : Program} {w : World} {K : PySem.W.Frag} {mg : Str → Option Value} {base : Heap} {f C : Addr} {fd : FuncData}
theorem ok_law_right (F : FunG K "_law_right" "_law_right" s_law_right f fd) (R : Ro P w K mg base C) (cd : Cal false P w K mg base 1 "_law_draw" (spIO K T_draw) []) (cn : Cal false P w K mg base 2 "_law_number" (spIO K T_number) []) (cl : Cal true P w K mg base 1 "_law_low" (spD K S_low) []) (ci : Cal true P w K mg base 5 "_law_is" (spD K (S_law_is C)) [])
    (cp : Cal true P w K mg base 6 "_law_pair_right" (spD K (S_pair_right C)) []) (cw : Cal true P w K mg base 6 "_law_whole_right" (spD K (S_whole_right C)) []) (hal : mg "all" = none) (hrg : mg "range" = none) (hzp : mg "zip" = none) :
    FnB true P w K mg base 7 f fd ["_law_pot_here"] (spIO K T_right) := by
  refine fnIO F cs_law_right (fun c ds r c' ⟨_, _, h, _⟩ => by rw [h]; rfl) (fun cdv A outer s H hr nog c ds r c' h => ?_)
  obtain ⟨p, rfl, rfl, ok, rfl, rfl⟩ := h
  have nd := cs_law_right.nd
  have n0 := num_ok (nums_ok ok 0)
  have n1 := num_ok (nums_ok ok 1)
  have n2 := num_ok (nums_ok ok 2)
  have ok3 := nums_ok ok 3
  refine psd_cons (fun ρ' => ρ' = [.own (potD (nums p 3)), .own (.lst ([((num (nums p 0)).1, (num (nums p 0)).2.1), ((num (nums p 1)).1, (num (nums p 1)).2.1), ((num (nums p 2)).1, (num (nums p 2)).2.1)].map tbD)), .non, .non, .non, .non, .non, .non, .non, .non, .non, .non, .non, .non, .non]) ?_ fun ρ' e => ?_
  · refine ps1_lc 1 [("_law_turn", 10)] (fun i => .own (potD (nums p i)) :: List.replicate 14 .non) (fun i => (List.range i).map fun k => tbD ((num (nums p k)).1, (num (nums p k)).2.1)) nd (pid_range1 hrg pd_int (by decide) (by decide)) (blkOk_by rfl) (fun s H C cl fp => pgd_name 10 nd) rfl (fun _ => rfl) rfl (fun i => by rw [List.length_map, List.length_range]; exact Nat.le_refl _) (by rw [rng_len]; decide) (fun i d hd => ?_) rfl rfl
    refine ⟨_, true, _, rfl, ptsb_nil, fun _ => ⟨_, _, fun s H C cl fp => pd_callIO 0 cn hr rfl pad_nil rfl ⟨nums p i, rfl, rfl, nums_ok ok i, rfl, rfl⟩, rfl, ?_⟩, fun z => nomatch z⟩
    dsimp only
    rw [List.range_succ, List.map_append]
    rfl
  subst e
  refine psd_still 1 rfl ?_
  obtain ⟨ts, hts⟩ : ∃ ts : List (Int × Int), ts = [((num (nums p 0)).1, (num (nums p 0)).2.1), ((num (nums p 1)).1, (num (nums p 1)).2.1), ((num (nums p 2)).1, (num (nums p 2)).2.1)] := ⟨_, rfl⟩
  have hq : ∀ q ∈ ts, q.2 ≠ 0 ∧ Bd 100 q.1 ∧ Bd 100 q.2 := by
    intro q hq
    rw [hts] at hq
    simp only [List.mem_cons, List.not_mem_nil, or_false] at hq
    rcases hq with rfl | rfl | rfl
    · exact ⟨n0.2.1, n0.2.2.1, n0.2.2.2⟩
    · exact ⟨n1.2.1, n1.2.2.1, n1.2.2.2⟩
    · exact ⟨n2.2.1, n2.2.2.1, n2.2.2.2⟩
  rw [← hts]
  have h3 : ∃ a b c, ts = [a, b, c] := ⟨_, _, _, hts⟩
  have hlen : ts.length = 3 := by rw [hts]; rfl
  clear hts n0 n1 n2
  unfold lastPot
  generalize nums p 3 = p3 at *
  have el : ∀ (g : Int × Int → D) (i : Nat) (d y : D), (ts.map tbD)[i]? = some d → (ts.map g)[i]? = some y → ∃ q ∈ ts, d = tbD q ∧ y = g q := fun g i d y h1 h2 => by
    rw [List.getElem?_map] at h1 h2
    obtain ⟨q, hq, rfl⟩ := Option.map_eq_some_iff.mp h1
    rw [hq] at h2
    cases h2
    exact ⟨q, List.mem_of_getElem? hq, rfl, rfl⟩
  refine psd_st (ps1_map 2 [("_law_top", 11), ("_law_bottom", 12)] nd (pid_list (pd_var 1)) (fun s H C cl fp => pgd_tup (n := 2) rfl (pgd_cons (pgd_name 11 nd) (pgd_cons (pgd_name 12 nd) pgd_nil))) (ys := ts.map fun q => qP (tbQ q)) (by rw [List.length_map, List.length_map]) (fun i d y h1 h2 => ?_) (by rw [List.length_map, hlen]; decide)) ?_
  · obtain ⟨q, m, rfl, rfl⟩ := el _ i d y h1 h2
    obtain ⟨q1, q2, q3⟩ := hq q m
    exact ⟨_, _, ⟨_, .inl rfl, rfl, _, _, _, rfl, rfl, _, _, _, rfl, rfl, rfl, rfl⟩, fun s H C cl' fp => pd_call cl hr (pad_cons (pd_var 11) (pad_cons (pd_var 12) pad_nil)) ⟨_, _, rfl, q1, q3.mono (by decide), rfl⟩ (nog := nog), rfl⟩
  refine psd_still 2 rfl ?_
  refine psd_st (ps1_map 3 [("_law_top", 11), ("_law_bottom", 12)] nd (pid_list (pd_var 1)) (fun s H C cl fp => pgd_tup (n := 2) rfl (pgd_cons (pgd_name 11 nd) (pgd_cons (pgd_name 12 nd) pgd_nil))) (ys := ts.map fun q => qD C (tbQ q)) (by rw [List.length_map, List.length_map]) (fun i d y h1 h2 => ?_) (by rw [List.length_map, hlen]; decide)) ?_
  · obtain ⟨q, m, rfl, rfl⟩ := el _ i d y h1 h2
    obtain ⟨q1, q2, q3⟩ := hq q m
    exact ⟨_, _, ⟨_, .inl rfl, rfl, _, _, _, rfl, rfl, _, _, _, rfl, rfl, rfl, rfl⟩, fun s H C' cl' fp => pd_still (pd_make R.mkR hr (pad_cons (pd_var 11) (pad_cons (pd_var 12) pad_nil)) ⟨_, _, rfl, rfl, q1, q3.mono (by decide), rfl, rfl⟩), rfl⟩
  refine psd_still 3 rfl ?_
  obtain ⟨a, b, c, rfl⟩ := h3
  have qa := hq a (by simp)
  have qb := hq b (by simp)
  have qc := hq c (by simp)
  have sa : Sz 100 (tbQ a) := sz_divInt qa.1 qa.2.1 qa.2.2
  have sb : Sz 100 (tbQ b) := sz_divInt qb.1 qb.2.1 qb.2.2
  have sc : Sz 100 (tbQ c) := sz_divInt qc.1 qc.2.1 qc.2.2
  have nb := fun (q : Int × Int) (h : q.2 ≠ 0 ∧ Bd 100 q.1 ∧ Bd 100 q.2) => h.2.2.mono (n := 8000) (by decide)
  refine psd_skip (ptd_notF (ptd_bl (pd_allT [("_law_told", 13), ("_law_pair", 14)] nd hal (pid_zip hzp (pad_cons (pd_var 3) (pad_cons (pd_var 2) pad_nil))) (fun s H C cl fp => pgd_tup (n := 2) rfl (pgd_cons (pgd_name 13 nd) (pgd_cons (pgd_name 14 nd) pgd_nil))) (fun i d hd => ?_) (Nat.le_of_ble_eq_true rfl)))) ?_
  · have m : d ∈ [rowD C (tbQ a), rowD C (tbQ b), rowD C (tbQ c)] := List.mem_of_getElem? hd
    simp only [List.mem_cons, List.not_mem_nil, or_false] at m
    obtain ⟨z, hz, rfl⟩ : ∃ z, Sz 100 z ∧ d = rowD C z := by
      rcases m with rfl | rfl | rfl
      · exact ⟨_, sa, rfl⟩
      · exact ⟨_, sb, rfl⟩
      · exact ⟨_, sc, rfl⟩
    exact ⟨_, _, ⟨_, .inl rfl, rfl, _, _, _, rfl, rfl, _, _, _, rfl, rfl, rfl, rfl⟩, fun s H C' cl' fp => pd_call ci hr (pad_cons (pd_var 13) (pad_cons (pd_var 14) pad_nil)) ⟨z, rfl, hz.mono (by decide), rfl⟩ (nog := nog), rfl⟩
  refine psd_skip (ptd_eq (ptd_cmp (pd_still (pd_makeK R.mkK hr (pkd_cons (pd_ixT (pd_ixL (pd_var 1) pd_int rfl) pd_int rfl) (pkd_cons (pd_ixT (pd_ixL (pd_var 1) pd_int rfl) pd_int rfl) pkd_nil)) ⟨a.1, a.2, rfl, rfl, qa.1, nb a qa, rfl, rfl⟩)) (pd_ixL (pd_var 3) pd_int rfl) (q_neQ (x := tbQ a) (y := tbQ a) R hr) rfl) (by rw [decide_eq_true rfl]; rfl)) ?_
  refine psd_for (fun i ρ' => ∃ s4 : Sl, ρ' = [.own (potD (drs p3 i)), .val (.lst ([a, b, c].map tbD)), .val (.lst ([a, b, c].map fun q => qP (tbQ q))), .val (.lst ([a, b, c].map fun q => qD C (tbQ q))), s4, .non, .non, .non, .non, .non, .non, .non, .non, .non, .non]) PassesOwn.never (pid_range1 hrg pd_int (by decide) (by decide)) (pgd_name 4 nd) ⟨.non, rfl⟩ ?_ ?_
  · rintro i d ρ' hd ⟨s4, rfl⟩
    have dk := draw_ok (m := 2001) (drs_ok ok3 i) (by decide)
    have hn : Bd 11 ((draw (drs p3 i) 2001).1 - 1000) := by unfold Bd; omega
    have hi : i < 3 := by
      have := (List.getElem?_eq_some_iff.mp hd).1
      rw [rng_len] at this
      exact this
    rw [rng_get (by exact hi)] at hd
    cases hd
    refine ⟨_, rfl, ?_⟩
    have cases3 : i = 0 ∨ i = 1 ∨ i = 2 := by omega
    rcases cases3 with rfl | rfl | rfl
    · refine psd_skip (ptd_notF (ptd_bl (pd_call cp hr (pad_cons (pd_ixL (pd_var 2) (pd_var 4) rfl) (pad_cons (pd_ixL (pd_var 2) (pd_bin (pd_var 4) pd_int bd_sub) rfl) (pad_cons (pd_ixL (pd_var 3) (pd_var 4) rfl) (pad_cons (pd_ixL (pd_var 3) (pd_bin (pd_var 4) pd_int bd_sub) rfl) pad_nil)))) ⟨tbQ a, tbQ c, rfl, sa, sc, rfl⟩ (nog := nog)))) ?_
      refine psd_skip (ptd_notF (ptd_bl (pd_call cw hr (pad_cons (pd_ixL (pd_var 2) (pd_var 4) rfl) (pad_cons (pd_ixL (pd_var 3) (pd_var 4) rfl) (pad_cons (pd_bin (pd_callIO 0 cd hr rfl (pad_cons pd_int pad_nil) rfl ⟨_, 2001, rfl, rfl, drs_ok ok3 _, by decide, by decide, rfl, rfl⟩) pd_int bd_sub) pad_nil))) ⟨tbQ a, _, rfl, sa, hn, rfl⟩ (nog := nog)))) (psd_nil ⟨_, rfl⟩)
    · refine psd_skip (ptd_notF (ptd_bl (pd_call cp hr (pad_cons (pd_ixL (pd_var 2) (pd_var 4) rfl) (pad_cons (pd_ixL (pd_var 2) (pd_bin (pd_var 4) pd_int bd_sub) rfl) (pad_cons (pd_ixL (pd_var 3) (pd_var 4) rfl) (pad_cons (pd_ixL (pd_var 3) (pd_bin (pd_var 4) pd_int bd_sub) rfl) pad_nil)))) ⟨tbQ b, tbQ a, rfl, sb, sa, rfl⟩ (nog := nog)))) ?_
      refine psd_skip (ptd_notF (ptd_bl (pd_call cw hr (pad_cons (pd_ixL (pd_var 2) (pd_var 4) rfl) (pad_cons (pd_ixL (pd_var 3) (pd_var 4) rfl) (pad_cons (pd_bin (pd_callIO 0 cd hr rfl (pad_cons pd_int pad_nil) rfl ⟨_, 2001, rfl, rfl, drs_ok ok3 _, by decide, by decide, rfl, rfl⟩) pd_int bd_sub) pad_nil))) ⟨tbQ b, _, rfl, sb, hn, rfl⟩ (nog := nog)))) (psd_nil ⟨_, rfl⟩)
    · refine psd_skip (ptd_notF (ptd_bl (pd_call cp hr (pad_cons (pd_ixL (pd_var 2) (pd_var 4) rfl) (pad_cons (pd_ixL (pd_var 2) (pd_bin (pd_var 4) pd_int bd_sub) rfl) (pad_cons (pd_ixL (pd_var 3) (pd_var 4) rfl) (pad_cons (pd_ixL (pd_var 3) (pd_bin (pd_var 4) pd_int bd_sub) rfl) pad_nil)))) ⟨tbQ c, tbQ b, rfl, sc, sb, rfl⟩ (nog := nog)))) ?_
      refine psd_skip (ptd_notF (ptd_bl (pd_call cw hr (pad_cons (pd_ixL (pd_var 2) (pd_var 4) rfl) (pad_cons (pd_ixL (pd_var 3) (pd_var 4) rfl) (pad_cons (pd_bin (pd_callIO 0 cd hr rfl (pad_cons pd_int pad_nil) rfl ⟨_, 2001, rfl, rfl, drs_ok ok3 _, by decide, by decide, rfl, rfl⟩) pd_int bd_sub) pad_nil))) ⟨tbQ c, _, rfl, sc, hn, rfl⟩ (nog := nog)))) (psd_nil ⟨_, rfl⟩)
  rintro ρ' ⟨s4, rfl⟩
  rw [show (rng 0 (Int.toNat 3)).length = 3 from rfl]
  have a9 : Sz 900 (tbQ a) := sa.mono (by decide)
  have b9 : Sz 900 (tbQ b) := sb.mono (by decide)
  have c9 : Sz 900 (tbQ c) := sc.mono (by decide)
  have ab9 : Sz 900 (tbQ a + tbQ b) := (sa.add sb).mono (by decide)
  have bc9 : Sz 900 (tbQ b + tbQ c) := (sb.add sc).mono (by decide)
  have abc9 : Sz 900 (tbQ a + tbQ b + tbQ c) := ((sa.add sb).add (sc.mono (by decide))).mono (by decide)
  have mab9 : Sz 900 (tbQ a * tbQ b) := (sa.mul sb).mono (by decide)
  have mac9 : Sz 900 (tbQ a * tbQ c) := (sa.mul sc).mono (by decide)
  have one9 : Sz 900 ((1 : Int) : Rat) := sz_int (by unfold Bd; decide) (by decide)
  have sub_z : tbQ a - tbQ a = ((0 : Int) : Rat) := by
    rw [Rat.sub_self]
    rfl
  have mul_o : tbQ a * ((1 : Int) : Rat) = tbQ a := by
    show tbQ a * 1 = tbQ a
    exact Rat.mul_one _
  refine psd_st (ps1_asg (pd_var 3) (pgd_unl (n := 3) rfl (pgd_cons (pgd_name 5 nd) (pgd_cons (pgd_name 6 nd) (pgd_cons (pgd_name 7 nd) pgd_nil)))) ⟨_, rfl, rfl, _, _, _, rfl, rfl, _, _, _, rfl, rfl, _, _, _, rfl, rfl, rfl, rfl⟩) ?_
  refine psd_st (ps1_set 8 nd (pd_bin (pd_callIO 0 cd hr rfl (pad_cons pd_int pad_nil) rfl ⟨_, 1999, rfl, rfl, drs_ok ok3 3, by decide, by decide, rfl, rfl⟩) pd_int bd_sub)) ?_
  have dk := draw_ok (m := 1999) (drs_ok ok3 3) (by decide)
  have hn : Bd 11 ((draw (drs p3 3) 1999).1 - 999) := by unfold Bd; omega
  generalize (draw (drs p3 3) 1999).1 - 999 = n at *
  have hn1 : Sz 100 (n : Rat) := sz_int (hn.mono (by decide)) (by decide)
  have n9 : Sz 900 (n : Rat) := hn1.mono (by decide)
  refine psd_st (ps1_set 9 nd (pd_lst (pad_cons (pd_blc (pd_cmp (pd_still (pd_bin (pd_still (pd_bin (pd_var 5) (pd_var 6) (q_add R hr a9 b9))) (pd_var 7) (q_add R hr ab9 c9))) (pd_still (pd_bin (pd_var 5) (pd_still (pd_bin (pd_var 6) (pd_var 7) (q_add R hr b9 c9))) (q_add R hr a9 bc9))) (q_eqQ R hr) rfl) (decide_eq_true (Rat.add_assoc _ _ _))) (pad_cons (pd_blc (pd_cmp (pd_still (pd_bin (pd_var 5) (pd_still (pd_bin (pd_var 6) (pd_var 7) (q_add R hr b9 c9))) (q_mul R hr a9 bc9))) (pd_still (pd_bin (pd_still (pd_bin (pd_var 5) (pd_var 6) (q_mul R hr a9 b9))) (pd_still (pd_bin (pd_var 5) (pd_var 7) (q_mul R hr a9 c9))) (q_add R hr mab9 mac9))) (q_eqQ R hr) rfl) (decide_eq_true (Rat.mul_add _ _ _))) pad_nil)))) ?_
  refine psd_st (ps1_extend 9 (pd_still (pd_lst (pad_cons (pd_blc (pd_cmp (pd_still (pd_bin (pd_var 5) (pd_var 5) (q_sub R hr a9 a9))) (pd_cast (pd_still (pd_make R.mkI hr (pad_cons pd_int pad_nil) ⟨0, 1, rfl, rfl, by decide, by unfold Bd; decide, rfl, rfl⟩ (dens_int1 1))) (congrArg (qD C) (of_int 0))) (q_eqQ R hr) rfl) (decide_eq_true sub_z)) (pad_cons (pd_blc (pd_cmp (pd_still (pd_bin (pd_var 5) pd_int (q_mulI R hr a9 one9))) (pd_var 5) (q_eqQ R hr) rfl) (decide_eq_true mul_o)) pad_nil)))) (hz := by show 2 + 2 ≤ _; decide)) ?_
  have bne : decide (tbQ b = ((0 : Int) : Rat)) = false → tbQ b ≠ 0 := fun h e => of_decide_eq_false h (by rw [e]; rfl)
  have dv9 : decide (tbQ b = ((0 : Int) : Rat)) = false → Sz 900 (tbQ a / tbQ b) := fun h => (sa.div sb (bne h)).mono (by decide)
  have or_t : (decide (tbQ b = ((0 : Int) : Rat)) || decide (tbQ a / tbQ b * tbQ b = tbQ a)) = true := by
    by_cases h : tbQ b = ((0 : Int) : Rat)
    · rw [decide_eq_true h]
      rfl
    · rw [decide_eq_true (Rat.div_mul_cancel fun e => h (by rw [e]; rfl)), Bool.or_true]
  have a19 : Sz 900 (tbQ a * ((1 : Int) : Rat)) := by
    rw [mul_o]
    exact a9
  have and_t : (decide (tbQ a ≤ tbQ a) && !decide (tbQ a < tbQ a * ((1 : Int) : Rat))) = true := by
    rw [mul_o, decide_eq_true Rat.le_refl, decide_eq_false Rat.lt_irrefl]
    rfl
  have s3 : ∀ x ∈ [tbQ a, tbQ b, tbQ c], Sz 100 x := fun x h => by
    simp only [List.mem_cons, List.not_mem_nil, or_false] at h
    rcases h with rfl | rfl | rfl <;> assumption
  have s4 : ∀ x ∈ [tbQ a, tbQ b, tbQ c, (n : Rat)], Sz 100 x := fun x h => by
    simp only [List.mem_cons, List.not_mem_nil, or_false] at h
    rcases h with rfl | rfl | rfl | rfl <;> assumption
  have s0 : ∀ x ∈ ([] : List Rat), Sz 100 x := fun x h => nomatch h
  have s1 : ∀ x ∈ [(n : Rat)], Sz 100 x := fun x h => by
    simp only [List.mem_cons, List.not_mem_nil, or_false] at h
    rw [h]
    exact hn1
  have tot3 : qsum [tbQ a, tbQ b, tbQ c] = tbQ a + tbQ b + tbQ c := by
    show 0 + tbQ a + tbQ b + tbQ c = _
    rw [Rat.zero_add]
  have tot4 : qsum [tbQ a, tbQ b, tbQ c, (n : Rat)] = tbQ a + tbQ b + tbQ c + n := by
    show 0 + tbQ a + tbQ b + tbQ c + n = _
    rw [Rat.zero_add]
  have tot1 : qsum [(n : Rat)] = n := by
    show 0 + (n : Rat) = _
    rw [Rat.zero_add]
  have z18 : Sz 1800 (qsum []) := (sz_sums s0 (by decide) 0).mono (by decide)
  refine psd_st (ps1_append 9 (pd_blc (pd_or (pd_cmp (pd_var 6) (pd_cast (pd_still (pd_make R.mkI hr (pad_cons pd_int pad_nil) ⟨0, 1, rfl, rfl, by decide, by unfold Bd; decide, rfl, rfl⟩ (dens_int1 1))) (congrArg (qD C) (of_int 0))) (q_eqQ R hr) rfl) fun hk => pd_one (pd_cmp (pd_still (pd_bin (pd_still (pd_meth R.over hr (pd_var 5) rfl (pad_cons (pd_var 6) pad_nil) ⟨_, _, _, rfl, .q _, a9, b9, bne hk, rfl⟩)) (pd_var 6) (q_mul R hr (dv9 hk) b9))) (pd_var 5) (q_eqQ R hr) rfl)) or_t) (hz := by show 4 ≤ _; decide)) ?_
  refine psd_st (ps1_append 9 (pd_blc (pd_and (pd_meth R.most hr (pd_var 5) rfl (pad_cons (pd_var 5) pad_nil) ⟨_, _, _, rfl, .q _, a9, a9, rfl⟩) fun _ => pd_one (pd_not (pd_meth R.below hr (pd_var 5) rfl (pad_cons (pd_still (pd_bin (pd_var 5) pd_int (q_mulI R hr a9 one9))) pad_nil) ⟨_, _, _, rfl, .q _, a9, a19, rfl⟩))) and_t) (hz := by show 5 ≤ _; decide)) ?_
  refine psd_st (ps1_append 9 (pd_blc (pd_cmp (pd_clm R.total hr (pd_glob R.rc.at_) (pad_cons (pd_var 3) pad_nil) ⟨_, [tbQ a, tbQ b, tbQ c], .inl rfl, .cons (.q _) (.cons (.q _) (.cons (.q _) .nil)), Nat.le_of_ble_eq_true rfl, fun x h => (s3 x h).mono (by decide), sz_sums s3 (Nat.le_of_ble_eq_true rfl), rfl⟩) (pd_still (pd_bin (pd_still (pd_bin (pd_var 5) (pd_var 6) (q_add R hr a9 b9))) (pd_var 7) (q_add R hr ab9 c9))) (q_eqQ R hr) rfl) (decide_eq_true tot3)) (hz := by show 6 ≤ _; decide)) ?_
  refine psd_st (ps1_append 9 (pd_blc (pd_cmp (pd_clmK R.totalK hr (pd_glob R.rc.at_) (pkd_cons (pd_callTy cd_tuple R.bi.tuple (pad_cons (pd_still (pd_bin (pd_var 3) (pd_still (pd_lst (pad_cons (pd_var 8) pad_nil))) (bd_catL (Nat.le_of_ble_eq_true rfl)))) pad_nil)) pkd_nil) ⟨_, [tbQ a, tbQ b, tbQ c, (n : Rat)], .inr rfl, .cons (.q _) (.cons (.q _) (.cons (.q _) (.cons (.i _) .nil))), Nat.le_of_ble_eq_true rfl, fun x h => (s4 x h).mono (by decide), sz_sums s4 (Nat.le_of_ble_eq_true rfl), rfl⟩) (pd_still (pd_bin (pd_still (pd_bin (pd_still (pd_bin (pd_var 5) (pd_var 6) (q_add R hr a9 b9))) (pd_var 7) (q_add R hr ab9 c9))) (pd_var 8) (q_addI R hr abc9 n9))) (q_eqQ R hr) rfl) (decide_eq_true tot4)) (hz := by show 7 ≤ _; decide)) ?_
  refine psd_st (ps1_extend 9 (pd_still (pd_lst (pad_cons (pd_call ci hr (pad_cons (pd_clm R.total hr (pd_glob R.rc.at_) (pad_cons (pd_still (pd_lst pad_nil)) pad_nil) ⟨_, [], .inl rfl, .nil, Nat.le_of_ble_eq_true rfl, fun x h => (s0 x h).mono (by decide), sz_sums s0 (Nat.le_of_ble_eq_true rfl), rfl⟩) (pad_cons (pd_cast (pd_tup (pad_cons pd_int (pad_cons pd_int pad_nil))) (d' := qP (qsum [])) rfl) pad_nil)) ⟨_, rfl, z18, rfl⟩ (nog := nog)) (pad_cons (pd_call ci hr (pad_cons (pd_cast (pd_still (pd_make R.mkI hr (pad_cons (pd_var 8) pad_nil) ⟨n, 1, rfl, rfl, by decide, by unfold Bd; decide, rfl, rfl⟩ (dens_int1 1))) (congrArg (qD C) (of_int n))) (pad_cons (pd_cast (pd_tup (pad_cons (pd_var 8) (pad_cons pd_int pad_nil))) (qP_int n).symm) pad_nil)) ⟨_, rfl, n9.mono (by decide), rfl⟩ (nog := nog)) (pad_cons (pd_blc (pd_cmp (pd_clm R.total hr (pd_glob R.rc.at_) (pad_cons (pd_still (pd_lst (pad_cons (pd_var 8) pad_nil))) pad_nil) ⟨_, [(n : Rat)], .inl rfl, .cons (.i _) .nil, Nat.le_of_ble_eq_true rfl, fun x h => (s1 x h).mono (by decide), sz_sums s1 (Nat.le_of_ble_eq_true rfl), rfl⟩) (pd_cast (pd_still (pd_make R.mkI hr (pad_cons (pd_var 8) pad_nil) ⟨n, 1, rfl, rfl, by decide, by unfold Bd; decide, rfl, rfl⟩ (dens_int1 1))) (congrArg (qD C) (of_int n))) (q_eqQ R hr) rfl) (decide_eq_true tot1)) pad_nil))))) (hz := by show 8 + 3 ≤ _; decide)) ?_
  refine psd_still 9 rfl ?_
  exact psd_ret (pd_callB (cd_all (bs := [true, true, true, true, true, true, true, true, true, true, true])) hal (pad_cons (pd_var 9) pad_nil)) ⟨rfl, rfl⟩
end
end Dn
end

section
set_option Elab.async false
set_option linter.all false
set_option maxRecDepth 100000
set_option maxHeartbeats 4000000
set_option exponentiation.threshold 10000
namespace Dn
open PySem PySem.Spec L2
section
variable {P : Program} {w : World} {K : PySem.W.Frag} {mg : Str → Option Value} {base : Heap} {f C : Addr} {fd : FuncData}
theorem ok_law (F : FunG K "law" "law" s_law f fd) (cr : Cal true P w K mg base 7 "_law_right" (spIO K T_right) []) (cp : Cal true P w K mg base 1 "_law_pot" (spD K S_pot) []) (hal : mg "all" = none) (hrg : mg "range" = none) (hmx : mg "max" = none) (hmn : mg "min" = none) (hln : mg "len" = none) :
    FnB true P w K mg base 8 f fd ["_law_script"] (spLaw 63 K) := by
  refine fnD F cs_law (fun ds r ⟨_, h, _⟩ => by rw [h]; rfl) (fun cdv A outer s H hr nog ds r h => ?_)
  obtain ⟨ns, rfl, hl, _, rfl⟩ := h
  have nd := cs_law.nd
  have hL : lenD (.lstK (ns.map D.int)) = some ns.length := by
    show some _ = some _
    rw [List.length_map]
  obtain ⟨m, hm, hm3⟩ : ∃ m : Int, (if (if (ns.length : Int) < 3 then (ns.length : Int) else 3) > 1 then (if (ns.length : Int) < 3 then (ns.length : Int) else 3) else 1) = m ∧ 0 ≤ m ∧ m ≤ 3 := ⟨_, rfl, by split <;> split <;> omega, by split <;> split <;> omega⟩
  refine psd_ret (pd_allT [("_law_k", 1)] nd hal (pid_range1 hrg (pd_cast (pd_callB cd_max hmx (pad_cons pd_int (pad_cons (pd_callB cd_min hmn (pad_cons pd_int (pad_cons (pd_callB (cd_len hL) hln (pad_cons (pd_var 0) pad_nil)) pad_nil))) pad_nil))) (congrArg D.int hm)) (by omega) (by omega)) (fun s H C cl fp => pgd_name 1 nd) (fun i d hd => ?_) (by rw [rng_len]; omega)) rfl
  have hi : i < m.toNat := by
    have := (List.getElem?_eq_some_iff.mp hd).1
    rw [rng_len] at this
    exact this
  rw [rng_get hi] at hd
  cases hd
  exact ⟨_, _, rfl, fun s H C cl fp => pd_callT cr hr (pd_call cp hr (pad_cons (pd_var 0) (pad_cons (pd_var 1) pad_nil)) ⟨ns, i, by rw [Int.zero_add]; rfl, by omega, rfl⟩ (nog := nog)) ⟨_, rfl, rfl, potOf_ok _ _, rfl, rfl⟩ (nog := nog), rfl⟩
end
end Dn
end

section
set_option Elab.async false
set_option maxRecDepth 100000
open PySem PySem.W PyProof.Rows
set_option maxHeartbeats 0
open_top head11 for PySem.Challenge.rw_straightened_k11_whole_ratios_reckoned
end

section
set_option Elab.async false
set_option linter.all false
set_option maxRecDepth 100000
set_option maxHeartbeats 4000000
set_option exponentiation.threshold 10000
namespace Dn
open PySem PySem.Spec L2
theorem cal_of {gd : Bool} {P : Program} {w : World} {K : PySem.W.Frag} {mg : Str → Option Value} {base : Heap} {k : Nat} {x : Str} {f : Addr} {fd : FuncData} {ps : List Str} {sp : Sp} (F : FnB gd P w K mg base k f fd ps sp) (a : mg x = some (.ref f)) (kp : PySem.W.keepIn K (.ref f) = true) (b : Binds K fd ps []) : Cal gd P w K mg base k x sp [] := ⟨f, fd, ps, [], F, a, kp, b, .nil⟩
theorem fnOk_of {P : Program} {w : World} {K : PySem.W.Frag} {mg : Str → Option Value} {base : Heap} {k : Nat} {f : Addr} {fd : FuncData} {ps : List Str} {sp : Sp} (F : FnB false P w K mg base k f fd ps sp) (h : ∀ vs H Q E, sp vs H Q E → sp vs H Q E0 := by exact fun _ _ _ _ h => h) : FnOk P w K mg base CX0 k f fd ps sp := F.ok h
theorem funD_mk {K : PySem.W.Frag} {x qual : Str} {st : Stmt} {f T : Addr} {n : Nat} {t : Tok} {oc cT : Value} {od an dT : Option Addr} {osl oT : Array (Option Value)} {kV doc pm cdv ct : Value} (l : K.lookup f = some ⟨oc, od, .func (PySem.W.fnOf x qual (defArgs st) (defBody st) (defScope st) (.ref T) kV doc pm an cdv ct), osl⟩)
    (c : PySem.W.codeIn K cdv qual = true) (k : PySem.W.keepIn K (.ref f) = true) (lT : K.lookup T = some ⟨cT, dT, .seq #[.int 1 t] n, oT⟩) : FunD K x qual (defArgs st) (defBody st) (defScope st) [.int 1] [] f (PySem.W.fnOf x qual (defArgs st) (defBody st) (defScope st) (.ref T) kV doc pm an cdv ct) :=
  ⟨⟨oc, od, _, kV, doc, pm, an, cdv, ct, osl, rfl, l, c, .inr ⟨by simp, T, _, [.int 1 t], n, rfl, lT, rfl, .cons ⟨t, rfl⟩ .nil⟩, .inl rfl⟩, k⟩
theorem k11_all {l : PySem.W.OpenLaw} {w : World} {K : PySem.W.Frag} {h : Heap} {mg : Str → Option Value} {fa C : Addr} (X : K.In h) (G : h.Ns mainGlobals mg) (hfa : mg "law" = some (.ref fa))
    {fis_integer : Addr} {odis_integer anis_integer : Option Addr} {slis_integer : Array (Option Value)} {ocis_integer kVis_integer dcis_integer pmis_integer cdis_integer ctis_integer : Value}
    {fis_list : Addr} {odis_list anis_list : Option Addr} {slis_list : Array (Option Value)} {ocis_list kVis_list dcis_list pmis_list cdis_list ctis_list : Value}
    {fdigits_of : Addr} {oddigits_of andigits_of : Option Addr} {sldigits_of : Array (Option Value)} {ocdigits_of kVdigits_of dcdigits_of pmdigits_of cddigits_of ctdigits_of : Value}
    {fcommon_part : Addr} {odcommon_part ancommon_part : Option Addr} {slcommon_part : Array (Option Value)} {occommon_part kVcommon_part dccommon_part pmcommon_part cdcommon_part ctcommon_part : Value}
    {tT tn : Nat} {tI : Tok} {tC : Value} {tD : Option Addr} {tS : Array (Option Value)}
    {fRinit : Addr} {odRinit anRinit : Option Addr} {slRinit : Array (Option Value)} {ocRinit kVRinit dcRinit pmRinit cdRinit ctRinit : Value}
    {fRtop : Addr} {odRtop anRtop : Option Addr} {slRtop : Array (Option Value)} {ocRtop kVRtop dcRtop pmRtop cdRtop ctRtop : Value}
    {pRtop : Addr} {reRtop : List Value}
    {fRbottom : Addr} {odRbottom anRbottom : Option Addr} {slRbottom : Array (Option Value)} {ocRbottom kVRbottom dcRbottom pmRbottom cdRbottom ctRbottom : Value}
    {pRbottom : Addr} {reRbottom : List Value}
    {fRsign : Addr} {odRsign anRsign : Option Addr} {slRsign : Array (Option Value)} {ocRsign kVRsign dcRsign pmRsign cdRsign ctRsign : Value}
    {pRsign : Addr} {reRsign : List Value}
    {fRis_whole : Addr} {odRis_whole anRis_whole : Option Addr} {slRis_whole : Array (Option Value)} {ocRis_whole kVRis_whole dcRis_whole pmRis_whole cdRis_whole ctRis_whole : Value}
    {pRis_whole : Addr} {reRis_whole : List Value}
    {fRtotal : Addr} {odRtotal anRtotal : Option Addr} {slRtotal : Array (Option Value)} {ocRtotal kVRtotal dcRtotal pmRtotal cdRtotal ctRtotal : Value}
    {pRtotal : Addr} {reRtotal : List Value}
    {fRadd : Addr} {odRadd anRadd : Option Addr} {slRadd : Array (Option Value)} {ocRadd kVRadd dcRadd pmRadd cdRadd ctRadd : Value}
    {fRradd : Addr} {odRradd anRradd : Option Addr} {slRradd : Array (Option Value)} {ocRradd kVRradd dcRradd pmRradd cdRradd ctRradd : Value}
    {fRsub : Addr} {odRsub anRsub : Option Addr} {slRsub : Array (Option Value)} {ocRsub kVRsub dcRsub pmRsub cdRsub ctRsub : Value}
    {fRrsub : Addr} {odRrsub anRrsub : Option Addr} {slRrsub : Array (Option Value)} {ocRrsub kVRrsub dcRrsub pmRrsub cdRrsub ctRrsub : Value}
    {fRmul : Addr} {odRmul anRmul : Option Addr} {slRmul : Array (Option Value)} {ocRmul kVRmul dcRmul pmRmul cdRmul ctRmul : Value}
    {fRrmul : Addr} {odRrmul anRrmul : Option Addr} {slRrmul : Array (Option Value)} {ocRrmul kVRrmul dcRrmul pmRrmul cdRrmul ctRrmul : Value}
    {fRneg : Addr} {odRneg anRneg : Option Addr} {slRneg : Array (Option Value)} {ocRneg kVRneg dcRneg pmRneg cdRneg ctRneg : Value}
    {fRover : Addr} {odRover anRover : Option Addr} {slRover : Array (Option Value)} {ocRover kVRover dcRover pmRover cdRover ctRover : Value}
    {fRsize : Addr} {odRsize anRsize : Option Addr} {slRsize : Array (Option Value)} {ocRsize kVRsize dcRsize pmRsize cdRsize ctRsize : Value}
    {fRis_below : Addr} {odRis_below anRis_below : Option Addr} {slRis_below : Array (Option Value)} {ocRis_below kVRis_below dcRis_below pmRis_below cdRis_below ctRis_below : Value}
    {fRis_at_most : Addr} {odRis_at_most anRis_at_most : Option Addr} {slRis_at_most : Array (Option Value)} {ocRis_at_most kVRis_at_most dcRis_at_most pmRis_at_most cdRis_at_most ctRis_at_most : Value}
    {fReq : Addr} {odReq anReq : Option Addr} {slReq : Array (Option Value)} {ocReq kVReq dcReq pmReq cdReq ctReq : Value}
    {fRstr : Addr} {odRstr anRstr : Option Addr} {slRstr : Array (Option Value)} {ocRstr kVRstr dcRstr pmRstr cdRstr ctRstr : Value}
    {fRrepr : Addr} {odRrepr anRrepr : Option Addr} {slRrepr : Array (Option Value)} {ocRrepr kVRrepr dcRrepr pmRrepr cdRrepr ctRrepr : Value}
    {ftold_pair : Addr} {odtold_pair antold_pair : Option Addr} {sltold_pair : Array (Option Value)} {octold_pair kVtold_pair dctold_pair pmtold_pair cdtold_pair cttold_pair : Value}
    {fis_number : Addr} {odis_number anis_number : Option Addr} {slis_number : Array (Option Value)} {ocis_number kVis_number dcis_number pmis_number cdis_number ctis_number : Value}
    {fratio_of : Addr} {odratio_of anratio_of : Option Addr} {slratio_of : Array (Option Value)} {ocratio_of kVratio_of dcratio_of pmratio_of cdratio_of ctratio_of : Value}
    {fwant_number : Addr} {odwant_number anwant_number : Option Addr} {slwant_number : Array (Option Value)} {ocwant_number kVwant_number dcwant_number pmwant_number cdwant_number ctwant_number : Value}
    {ftotal_of : Addr} {odtotal_of antotal_of : Option Addr} {sltotal_of : Array (Option Value)} {octotal_of kVtotal_of dctotal_of pmtotal_of cdtotal_of cttotal_of : Value}
    {flaw_pot : Addr} {odlaw_pot anlaw_pot : Option Addr} {sllaw_pot : Array (Option Value)} {oclaw_pot kVlaw_pot dclaw_pot pmlaw_pot cdlaw_pot ctlaw_pot : Value}
    {flaw_draw : Addr} {odlaw_draw anlaw_draw : Option Addr} {sllaw_draw : Array (Option Value)} {oclaw_draw kVlaw_draw dclaw_draw pmlaw_draw cdlaw_draw ctlaw_draw : Value}
    {flaw_low : Addr} {odlaw_low anlaw_low : Option Addr} {sllaw_low : Array (Option Value)} {oclaw_low kVlaw_low dclaw_low pmlaw_low cdlaw_low ctlaw_low : Value}
    {flaw_number : Addr} {odlaw_number anlaw_number : Option Addr} {sllaw_number : Array (Option Value)} {oclaw_number kVlaw_number dclaw_number pmlaw_number cdlaw_number ctlaw_number : Value}
    {flaw_is : Addr} {odlaw_is anlaw_is : Option Addr} {sllaw_is : Array (Option Value)} {oclaw_is kVlaw_is dclaw_is pmlaw_is cdlaw_is ctlaw_is : Value}
    {flaw_pair_right : Addr} {odlaw_pair_right anlaw_pair_right : Option Addr} {sllaw_pair_right : Array (Option Value)} {oclaw_pair_right kVlaw_pair_right dclaw_pair_right pmlaw_pair_right cdlaw_pair_right ctlaw_pair_right : Value}
    {flaw_whole_right : Addr} {odlaw_whole_right anlaw_whole_right : Option Addr} {sllaw_whole_right : Array (Option Value)} {oclaw_whole_right kVlaw_whole_right dclaw_whole_right pmlaw_whole_right cdlaw_whole_right ctlaw_whole_right : Value}
    {flaw_right : Addr} {odlaw_right anlaw_right : Option Addr} {sllaw_right : Array (Option Value)} {oclaw_right kVlaw_right dclaw_right pmlaw_right cdlaw_right ctlaw_right : Value}
    {flaw : Addr} {odlaw anlaw : Option Addr} {sllaw : Array (Option Value)} {oclaw kVlaw dclaw pmlaw cdlaw ctlaw : Value}
    {foadd roadd : Option Value}
    {fosub rosub : Option Value}
    {fomul romul : Option Value}
    {tP : Tok}
    (aC : PySem.W.nsIn K mainGlobals "Ratio" = some (some (.ref C)))
    (ais_integer : PySem.W.nsIn K mainGlobals "is_integer" = some (some (.ref fis_integer)))
    (lis_integer : K.lookup fis_integer = some ⟨ocis_integer, odis_integer, .func (PySem.W.fnOf "is_integer" "is_integer" (defArgs s_is_integer) (defBody s_is_integer) (defScope s_is_integer) .none kVis_integer dcis_integer pmis_integer anis_integer cdis_integer ctis_integer), slis_integer⟩)
    (cis_integer : PySem.W.codeIn K cdis_integer "is_integer" = true)
    (kis_integer : PySem.W.keepIn K (.ref fis_integer) = true)
    (ais_list : PySem.W.nsIn K mainGlobals "is_list" = some (some (.ref fis_list)))
    (lis_list : K.lookup fis_list = some ⟨ocis_list, odis_list, .func (PySem.W.fnOf "is_list" "is_list" (defArgs s_is_list) (defBody s_is_list) (defScope s_is_list) .none kVis_list dcis_list pmis_list anis_list cdis_list ctis_list), slis_list⟩)
    (cis_list : PySem.W.codeIn K cdis_list "is_list" = true)
    (kis_list : PySem.W.keepIn K (.ref fis_list) = true)
    (adigits_of : PySem.W.nsIn K mainGlobals "digits_of" = some (some (.ref fdigits_of)))
    (ldigits_of : K.lookup fdigits_of = some ⟨ocdigits_of, oddigits_of, .func (PySem.W.fnOf "digits_of" "digits_of" (defArgs s_digits_of) (defBody s_digits_of) (defScope s_digits_of) .none kVdigits_of dcdigits_of pmdigits_of andigits_of cddigits_of ctdigits_of), sldigits_of⟩)
    (cdigits_of : PySem.W.codeIn K cddigits_of "digits_of" = true)
    (kdigits_of : PySem.W.keepIn K (.ref fdigits_of) = true)
    (acommon_part : PySem.W.nsIn K mainGlobals "common_part" = some (some (.ref fcommon_part)))
    (lcommon_part : K.lookup fcommon_part = some ⟨occommon_part, odcommon_part, .func (PySem.W.fnOf "common_part" "common_part" (defArgs s_common_part) (defBody s_common_part) (defScope s_common_part) .none kVcommon_part dccommon_part pmcommon_part ancommon_part cdcommon_part ctcommon_part), slcommon_part⟩)
    (ccommon_part : PySem.W.codeIn K cdcommon_part "common_part" = true)
    (kcommon_part : PySem.W.keepIn K (.ref fcommon_part) = true)
    (aRinit : PySem.W.findIn K (.ref C) "__init__" = some (some (.ref fRinit)))
    (iRinit : PySem.W.isFn K (.ref fRinit) = true)
    (lRinit : K.lookup fRinit = some ⟨ocRinit, odRinit, .func (PySem.W.fnOf "__init__" "Ratio.__init__" (defArgs s_Ratio_init) (defBody s_Ratio_init) (defScope s_Ratio_init) (.ref tT) kVRinit dcRinit pmRinit anRinit cdRinit ctRinit), slRinit⟩)
    (lT : K.lookup tT = some ⟨tC, tD, .seq #[.int 1 tI] tn, tS⟩)
    (cRinit : PySem.W.codeIn K cdRinit "Ratio.__init__" = true)
    (kRinit : PySem.W.keepIn K (.ref fRinit) = true)
    (aRtop : PySem.W.findIn K (.ref C) "top" = some (some (.ref pRtop)))
    (sRtop : PySem.W.specialIn K (.ref pRtop) "__get__" = some (some (.builtin "property.__get__")))
    (tRtop : PySem.W.takesIn K (.ref pRtop) = some true)
    (rRtop : PySem.W.recIn K pRtop "property" = some (.ref fRtop :: reRtop))
    (lRtop : K.lookup fRtop = some ⟨ocRtop, odRtop, .func (PySem.W.fnOf "top" "Ratio.top" (defArgs s_Ratio_top) (defBody s_Ratio_top) (defScope s_Ratio_top) .none kVRtop dcRtop pmRtop anRtop cdRtop ctRtop), slRtop⟩)
    (cRtop : PySem.W.codeIn K cdRtop "Ratio.top" = true)
    (kRtop : PySem.W.keepIn K (.ref fRtop) = true)
    (aRbottom : PySem.W.findIn K (.ref C) "bottom" = some (some (.ref pRbottom)))
    (sRbottom : PySem.W.specialIn K (.ref pRbottom) "__get__" = some (some (.builtin "property.__get__")))
    (tRbottom : PySem.W.takesIn K (.ref pRbottom) = some true)
    (rRbottom : PySem.W.recIn K pRbottom "property" = some (.ref fRbottom :: reRbottom))
    (lRbottom : K.lookup fRbottom = some ⟨ocRbottom, odRbottom, .func (PySem.W.fnOf "bottom" "Ratio.bottom" (defArgs s_Ratio_bottom) (defBody s_Ratio_bottom) (defScope s_Ratio_bottom) .none kVRbottom dcRbottom pmRbottom anRbottom cdRbottom ctRbottom), slRbottom⟩)
    (cRbottom : PySem.W.codeIn K cdRbottom "Ratio.bottom" = true)
    (kRbottom : PySem.W.keepIn K (.ref fRbottom) = true)
    (aRsign : PySem.W.findIn K (.ref C) "sign" = some (some (.ref pRsign)))
    (sRsign : PySem.W.specialIn K (.ref pRsign) "__get__" = some (some (.builtin "property.__get__")))
    (tRsign : PySem.W.takesIn K (.ref pRsign) = some true)
    (rRsign : PySem.W.recIn K pRsign "property" = some (.ref fRsign :: reRsign))
    (lRsign : K.lookup fRsign = some ⟨ocRsign, odRsign, .func (PySem.W.fnOf "sign" "Ratio.sign" (defArgs s_Ratio_sign) (defBody s_Ratio_sign) (defScope s_Ratio_sign) .none kVRsign dcRsign pmRsign anRsign cdRsign ctRsign), slRsign⟩)
    (cRsign : PySem.W.codeIn K cdRsign "Ratio.sign" = true)
    (kRsign : PySem.W.keepIn K (.ref fRsign) = true)
    (aRis_whole : PySem.W.findIn K (.ref C) "is_whole" = some (some (.ref pRis_whole)))
    (sRis_whole : PySem.W.specialIn K (.ref pRis_whole) "__get__" = some (some (.builtin "property.__get__")))
    (tRis_whole : PySem.W.takesIn K (.ref pRis_whole) = some true)
    (rRis_whole : PySem.W.recIn K pRis_whole "property" = some (.ref fRis_whole :: reRis_whole))
    (lRis_whole : K.lookup fRis_whole = some ⟨ocRis_whole, odRis_whole, .func (PySem.W.fnOf "is_whole" "Ratio.is_whole" (defArgs s_Ratio_is_whole) (defBody s_Ratio_is_whole) (defScope s_Ratio_is_whole) .none kVRis_whole dcRis_whole pmRis_whole anRis_whole cdRis_whole ctRis_whole), slRis_whole⟩)
    (cRis_whole : PySem.W.codeIn K cdRis_whole "Ratio.is_whole" = true)
    (kRis_whole : PySem.W.keepIn K (.ref fRis_whole) = true)
    (rd : PySem.W.readsIn K C (.type "type") = true)
    (ga : PySem.W.specialIn K (.ref C) "__getattribute__" = some (some (.builtin "type.__getattribute__")))
    (aRtotal : PySem.W.findCls K (.ref C) (.type "type") "total" = some (.get (.builtin "classmethod.__get__") (.ref pRtotal) .none (.ref C)))
    (rRtotal : PySem.W.recIn K pRtotal "classmethod" = some (.ref fRtotal :: reRtotal))
    (iRtotal : PySem.W.fnIn K fRtotal = true)
    (lRtotal : K.lookup fRtotal = some ⟨ocRtotal, odRtotal, .func (PySem.W.fnOf "total" "Ratio.total" (defArgs s_Ratio_total) (defBody s_Ratio_total) (defScope s_Ratio_total) .none kVRtotal dcRtotal pmRtotal anRtotal cdRtotal ctRtotal), slRtotal⟩)
    (cRtotal : PySem.W.codeIn K cdRtotal "Ratio.total" = true)
    (kRtotal : PySem.W.keepIn K (.ref fRtotal) = true)
    (aRadd : PySem.W.findIn K (.ref C) "__add__" = some (some (.ref fRadd)))
    (iRadd : PySem.W.isFn K (.ref fRadd) = true)
    (lRadd : K.lookup fRadd = some ⟨ocRadd, odRadd, .func (PySem.W.fnOf "__add__" "Ratio.__add__" (defArgs s_Ratio_add) (defBody s_Ratio_add) (defScope s_Ratio_add) .none kVRadd dcRadd pmRadd anRadd cdRadd ctRadd), slRadd⟩)
    (cRadd : PySem.W.codeIn K cdRadd "Ratio.__add__" = true)
    (kRadd : PySem.W.keepIn K (.ref fRadd) = true)
    (aRradd : PySem.W.findIn K (.ref C) "__radd__" = some (some (.ref fRradd)))
    (iRradd : PySem.W.isFn K (.ref fRradd) = true)
    (lRradd : K.lookup fRradd = some ⟨ocRradd, odRradd, .func (PySem.W.fnOf "__radd__" "Ratio.__radd__" (defArgs s_Ratio_radd) (defBody s_Ratio_radd) (defScope s_Ratio_radd) .none kVRradd dcRradd pmRradd anRradd cdRradd ctRradd), slRradd⟩)
    (cRradd : PySem.W.codeIn K cdRradd "Ratio.__radd__" = true)
    (kRradd : PySem.W.keepIn K (.ref fRradd) = true)
    (aRsub : PySem.W.findIn K (.ref C) "__sub__" = some (some (.ref fRsub)))
    (iRsub : PySem.W.isFn K (.ref fRsub) = true)
    (lRsub : K.lookup fRsub = some ⟨ocRsub, odRsub, .func (PySem.W.fnOf "__sub__" "Ratio.__sub__" (defArgs s_Ratio_sub) (defBody s_Ratio_sub) (defScope s_Ratio_sub) .none kVRsub dcRsub pmRsub anRsub cdRsub ctRsub), slRsub⟩)
    (cRsub : PySem.W.codeIn K cdRsub "Ratio.__sub__" = true)
    (kRsub : PySem.W.keepIn K (.ref fRsub) = true)
    (aRrsub : PySem.W.findIn K (.ref C) "__rsub__" = some (some (.ref fRrsub)))
    (iRrsub : PySem.W.isFn K (.ref fRrsub) = true)
    (lRrsub : K.lookup fRrsub = some ⟨ocRrsub, odRrsub, .func (PySem.W.fnOf "__rsub__" "Ratio.__rsub__" (defArgs s_Ratio_rsub) (defBody s_Ratio_rsub) (defScope s_Ratio_rsub) .none kVRrsub dcRrsub pmRrsub anRrsub cdRrsub ctRrsub), slRrsub⟩)
    (cRrsub : PySem.W.codeIn K cdRrsub "Ratio.__rsub__" = true)
    (kRrsub : PySem.W.keepIn K (.ref fRrsub) = true)
    (aRmul : PySem.W.findIn K (.ref C) "__mul__" = some (some (.ref fRmul)))
    (iRmul : PySem.W.isFn K (.ref fRmul) = true)
    (lRmul : K.lookup fRmul = some ⟨ocRmul, odRmul, .func (PySem.W.fnOf "__mul__" "Ratio.__mul__" (defArgs s_Ratio_mul) (defBody s_Ratio_mul) (defScope s_Ratio_mul) .none kVRmul dcRmul pmRmul anRmul cdRmul ctRmul), slRmul⟩)
    (cRmul : PySem.W.codeIn K cdRmul "Ratio.__mul__" = true)
    (kRmul : PySem.W.keepIn K (.ref fRmul) = true)
    (aRrmul : PySem.W.findIn K (.ref C) "__rmul__" = some (some (.ref fRrmul)))
    (iRrmul : PySem.W.isFn K (.ref fRrmul) = true)
    (lRrmul : K.lookup fRrmul = some ⟨ocRrmul, odRrmul, .func (PySem.W.fnOf "__rmul__" "Ratio.__rmul__" (defArgs s_Ratio_rmul) (defBody s_Ratio_rmul) (defScope s_Ratio_rmul) .none kVRrmul dcRrmul pmRrmul anRrmul cdRrmul ctRrmul), slRrmul⟩)
    (cRrmul : PySem.W.codeIn K cdRrmul "Ratio.__rmul__" = true)
    (kRrmul : PySem.W.keepIn K (.ref fRrmul) = true)
    (aRneg : PySem.W.findIn K (.ref C) "__neg__" = some (some (.ref fRneg)))
    (iRneg : PySem.W.isFn K (.ref fRneg) = true)
    (lRneg : K.lookup fRneg = some ⟨ocRneg, odRneg, .func (PySem.W.fnOf "__neg__" "Ratio.__neg__" (defArgs s_Ratio_neg) (defBody s_Ratio_neg) (defScope s_Ratio_neg) .none kVRneg dcRneg pmRneg anRneg cdRneg ctRneg), slRneg⟩)
    (cRneg : PySem.W.codeIn K cdRneg "Ratio.__neg__" = true)
    (kRneg : PySem.W.keepIn K (.ref fRneg) = true)
    (aRover : PySem.W.findIn K (.ref C) "over" = some (some (.ref fRover)))
    (iRover : PySem.W.isFn K (.ref fRover) = true)
    (lRover : K.lookup fRover = some ⟨ocRover, odRover, .func (PySem.W.fnOf "over" "Ratio.over" (defArgs s_Ratio_over) (defBody s_Ratio_over) (defScope s_Ratio_over) .none kVRover dcRover pmRover anRover cdRover ctRover), slRover⟩)
    (cRover : PySem.W.codeIn K cdRover "Ratio.over" = true)
    (kRover : PySem.W.keepIn K (.ref fRover) = true)
    (aRsize : PySem.W.findIn K (.ref C) "size" = some (some (.ref fRsize)))
    (iRsize : PySem.W.isFn K (.ref fRsize) = true)
    (lRsize : K.lookup fRsize = some ⟨ocRsize, odRsize, .func (PySem.W.fnOf "size" "Ratio.size" (defArgs s_Ratio_size) (defBody s_Ratio_size) (defScope s_Ratio_size) .none kVRsize dcRsize pmRsize anRsize cdRsize ctRsize), slRsize⟩)
    (cRsize : PySem.W.codeIn K cdRsize "Ratio.size" = true)
    (kRsize : PySem.W.keepIn K (.ref fRsize) = true)
    (aRis_below : PySem.W.findIn K (.ref C) "is_below" = some (some (.ref fRis_below)))
    (iRis_below : PySem.W.isFn K (.ref fRis_below) = true)
    (lRis_below : K.lookup fRis_below = some ⟨ocRis_below, odRis_below, .func (PySem.W.fnOf "is_below" "Ratio.is_below" (defArgs s_Ratio_is_below) (defBody s_Ratio_is_below) (defScope s_Ratio_is_below) .none kVRis_below dcRis_below pmRis_below anRis_below cdRis_below ctRis_below), slRis_below⟩)
    (cRis_below : PySem.W.codeIn K cdRis_below "Ratio.is_below" = true)
    (kRis_below : PySem.W.keepIn K (.ref fRis_below) = true)
    (aRis_at_most : PySem.W.findIn K (.ref C) "is_at_most" = some (some (.ref fRis_at_most)))
    (iRis_at_most : PySem.W.isFn K (.ref fRis_at_most) = true)
    (lRis_at_most : K.lookup fRis_at_most = some ⟨ocRis_at_most, odRis_at_most, .func (PySem.W.fnOf "is_at_most" "Ratio.is_at_most" (defArgs s_Ratio_is_at_most) (defBody s_Ratio_is_at_most) (defScope s_Ratio_is_at_most) .none kVRis_at_most dcRis_at_most pmRis_at_most anRis_at_most cdRis_at_most ctRis_at_most), slRis_at_most⟩)
    (cRis_at_most : PySem.W.codeIn K cdRis_at_most "Ratio.is_at_most" = true)
    (kRis_at_most : PySem.W.keepIn K (.ref fRis_at_most) = true)
    (aReq : PySem.W.findIn K (.ref C) "__eq__" = some (some (.ref fReq)))
    (iReq : PySem.W.isFn K (.ref fReq) = true)
    (lReq : K.lookup fReq = some ⟨ocReq, odReq, .func (PySem.W.fnOf "__eq__" "Ratio.__eq__" (defArgs s_Ratio_eq) (defBody s_Ratio_eq) (defScope s_Ratio_eq) .none kVReq dcReq pmReq anReq cdReq ctReq), slReq⟩)
    (cReq : PySem.W.codeIn K cdReq "Ratio.__eq__" = true)
    (kReq : PySem.W.keepIn K (.ref fReq) = true)
    (aRstr : PySem.W.findIn K (.ref C) "__str__" = some (some (.ref fRstr)))
    (iRstr : PySem.W.isFn K (.ref fRstr) = true)
    (lRstr : K.lookup fRstr = some ⟨ocRstr, odRstr, .func (PySem.W.fnOf "__str__" "Ratio.__str__" (defArgs s_Ratio_str) (defBody s_Ratio_str) (defScope s_Ratio_str) .none kVRstr dcRstr pmRstr anRstr cdRstr ctRstr), slRstr⟩)
    (cRstr : PySem.W.codeIn K cdRstr "Ratio.__str__" = true)
    (kRstr : PySem.W.keepIn K (.ref fRstr) = true)
    (aRrepr : PySem.W.findIn K (.ref C) "__repr__" = some (some (.ref fRrepr)))
    (iRrepr : PySem.W.isFn K (.ref fRrepr) = true)
    (lRrepr : K.lookup fRrepr = some ⟨ocRrepr, odRrepr, .func (PySem.W.fnOf "__repr__" "Ratio.__repr__" (defArgs s_Ratio_repr) (defBody s_Ratio_repr) (defScope s_Ratio_repr) .none kVRrepr dcRrepr pmRrepr anRrepr cdRrepr ctRrepr), slRrepr⟩)
    (cRrepr : PySem.W.codeIn K cdRrepr "Ratio.__repr__" = true)
    (kRrepr : PySem.W.keepIn K (.ref fRrepr) = true)
    (atold_pair : PySem.W.nsIn K mainGlobals "told_pair" = some (some (.ref ftold_pair)))
    (ltold_pair : K.lookup ftold_pair = some ⟨octold_pair, odtold_pair, .func (PySem.W.fnOf "told_pair" "told_pair" (defArgs s_told_pair) (defBody s_told_pair) (defScope s_told_pair) .none kVtold_pair dctold_pair pmtold_pair antold_pair cdtold_pair cttold_pair), sltold_pair⟩)
    (ctold_pair : PySem.W.codeIn K cdtold_pair "told_pair" = true)
    (ktold_pair : PySem.W.keepIn K (.ref ftold_pair) = true)
    (ais_number : PySem.W.nsIn K mainGlobals "is_number" = some (some (.ref fis_number)))
    (lis_number : K.lookup fis_number = some ⟨ocis_number, odis_number, .func (PySem.W.fnOf "is_number" "is_number" (defArgs s_is_number) (defBody s_is_number) (defScope s_is_number) .none kVis_number dcis_number pmis_number anis_number cdis_number ctis_number), slis_number⟩)
    (cis_number : PySem.W.codeIn K cdis_number "is_number" = true)
    (kis_number : PySem.W.keepIn K (.ref fis_number) = true)
    (aratio_of : PySem.W.nsIn K mainGlobals "ratio_of" = some (some (.ref fratio_of)))
    (lratio_of : K.lookup fratio_of = some ⟨ocratio_of, odratio_of, .func (PySem.W.fnOf "ratio_of" "ratio_of" (defArgs s_ratio_of) (defBody s_ratio_of) (defScope s_ratio_of) .none kVratio_of dcratio_of pmratio_of anratio_of cdratio_of ctratio_of), slratio_of⟩)
    (cratio_of : PySem.W.codeIn K cdratio_of "ratio_of" = true)
    (kratio_of : PySem.W.keepIn K (.ref fratio_of) = true)
    (awant_number : PySem.W.nsIn K mainGlobals "want_number" = some (some (.ref fwant_number)))
    (lwant_number : K.lookup fwant_number = some ⟨ocwant_number, odwant_number, .func (PySem.W.fnOf "want_number" "want_number" (defArgs s_want_number) (defBody s_want_number) (defScope s_want_number) .none kVwant_number dcwant_number pmwant_number anwant_number cdwant_number ctwant_number), slwant_number⟩)
    (cwant_number : PySem.W.codeIn K cdwant_number "want_number" = true)
    (kwant_number : PySem.W.keepIn K (.ref fwant_number) = true)
    (atotal_of : PySem.W.nsIn K mainGlobals "total_of" = some (some (.ref ftotal_of)))
    (ltotal_of : K.lookup ftotal_of = some ⟨octotal_of, odtotal_of, .func (PySem.W.fnOf "total_of" "total_of" (defArgs s_total_of) (defBody s_total_of) (defScope s_total_of) .none kVtotal_of dctotal_of pmtotal_of antotal_of cdtotal_of cttotal_of), sltotal_of⟩)
    (ctotal_of : PySem.W.codeIn K cdtotal_of "total_of" = true)
    (ktotal_of : PySem.W.keepIn K (.ref ftotal_of) = true)
    (alaw_pot : PySem.W.nsIn K mainGlobals "_law_pot" = some (some (.ref flaw_pot)))
    (llaw_pot : K.lookup flaw_pot = some ⟨oclaw_pot, odlaw_pot, .func (PySem.W.fnOf "_law_pot" "_law_pot" (defArgs s_law_pot) (defBody s_law_pot) (defScope s_law_pot) .none kVlaw_pot dclaw_pot pmlaw_pot anlaw_pot cdlaw_pot ctlaw_pot), sllaw_pot⟩)
    (claw_pot : PySem.W.codeIn K cdlaw_pot "_law_pot" = true)
    (klaw_pot : PySem.W.keepIn K (.ref flaw_pot) = true)
    (alaw_draw : PySem.W.nsIn K mainGlobals "_law_draw" = some (some (.ref flaw_draw)))
    (llaw_draw : K.lookup flaw_draw = some ⟨oclaw_draw, odlaw_draw, .func (PySem.W.fnOf "_law_draw" "_law_draw" (defArgs s_law_draw) (defBody s_law_draw) (defScope s_law_draw) .none kVlaw_draw dclaw_draw pmlaw_draw anlaw_draw cdlaw_draw ctlaw_draw), sllaw_draw⟩)
    (claw_draw : PySem.W.codeIn K cdlaw_draw "_law_draw" = true)
    (klaw_draw : PySem.W.keepIn K (.ref flaw_draw) = true)
    (alaw_low : PySem.W.nsIn K mainGlobals "_law_low" = some (some (.ref flaw_low)))
    (llaw_low : K.lookup flaw_low = some ⟨oclaw_low, odlaw_low, .func (PySem.W.fnOf "_law_low" "_law_low" (defArgs s_law_low) (defBody s_law_low) (defScope s_law_low) .none kVlaw_low dclaw_low pmlaw_low anlaw_low cdlaw_low ctlaw_low), sllaw_low⟩)
    (claw_low : PySem.W.codeIn K cdlaw_low "_law_low" = true)
    (klaw_low : PySem.W.keepIn K (.ref flaw_low) = true)
    (alaw_number : PySem.W.nsIn K mainGlobals "_law_number" = some (some (.ref flaw_number)))
    (llaw_number : K.lookup flaw_number = some ⟨oclaw_number, odlaw_number, .func (PySem.W.fnOf "_law_number" "_law_number" (defArgs s_law_number) (defBody s_law_number) (defScope s_law_number) .none kVlaw_number dclaw_number pmlaw_number anlaw_number cdlaw_number ctlaw_number), sllaw_number⟩)
    (claw_number : PySem.W.codeIn K cdlaw_number "_law_number" = true)
    (klaw_number : PySem.W.keepIn K (.ref flaw_number) = true)
    (alaw_is : PySem.W.nsIn K mainGlobals "_law_is" = some (some (.ref flaw_is)))
    (llaw_is : K.lookup flaw_is = some ⟨oclaw_is, odlaw_is, .func (PySem.W.fnOf "_law_is" "_law_is" (defArgs s_law_is) (defBody s_law_is) (defScope s_law_is) .none kVlaw_is dclaw_is pmlaw_is anlaw_is cdlaw_is ctlaw_is), sllaw_is⟩)
    (claw_is : PySem.W.codeIn K cdlaw_is "_law_is" = true)
    (klaw_is : PySem.W.keepIn K (.ref flaw_is) = true)
    (alaw_pair_right : PySem.W.nsIn K mainGlobals "_law_pair_right" = some (some (.ref flaw_pair_right)))
    (llaw_pair_right : K.lookup flaw_pair_right = some ⟨oclaw_pair_right, odlaw_pair_right, .func (PySem.W.fnOf "_law_pair_right" "_law_pair_right" (defArgs s_law_pair_right) (defBody s_law_pair_right) (defScope s_law_pair_right) .none kVlaw_pair_right dclaw_pair_right pmlaw_pair_right anlaw_pair_right cdlaw_pair_right ctlaw_pair_right), sllaw_pair_right⟩)
    (claw_pair_right : PySem.W.codeIn K cdlaw_pair_right "_law_pair_right" = true)
    (klaw_pair_right : PySem.W.keepIn K (.ref flaw_pair_right) = true)
    (alaw_whole_right : PySem.W.nsIn K mainGlobals "_law_whole_right" = some (some (.ref flaw_whole_right)))
    (llaw_whole_right : K.lookup flaw_whole_right = some ⟨oclaw_whole_right, odlaw_whole_right, .func (PySem.W.fnOf "_law_whole_right" "_law_whole_right" (defArgs s_law_whole_right) (defBody s_law_whole_right) (defScope s_law_whole_right) .none kVlaw_whole_right dclaw_whole_right pmlaw_whole_right anlaw_whole_right cdlaw_whole_right ctlaw_whole_right), sllaw_whole_right⟩)
    (claw_whole_right : PySem.W.codeIn K cdlaw_whole_right "_law_whole_right" = true)
    (klaw_whole_right : PySem.W.keepIn K (.ref flaw_whole_right) = true)
    (alaw_right : PySem.W.nsIn K mainGlobals "_law_right" = some (some (.ref flaw_right)))
    (llaw_right : K.lookup flaw_right = some ⟨oclaw_right, odlaw_right, .func (PySem.W.fnOf "_law_right" "_law_right" (defArgs s_law_right) (defBody s_law_right) (defScope s_law_right) .none kVlaw_right dclaw_right pmlaw_right anlaw_right cdlaw_right ctlaw_right), sllaw_right⟩)
    (claw_right : PySem.W.codeIn K cdlaw_right "_law_right" = true)
    (klaw_right : PySem.W.keepIn K (.ref flaw_right) = true)
    (alaw : PySem.W.nsIn K mainGlobals "law" = some (some (.ref flaw)))
    (llaw : K.lookup flaw = some ⟨oclaw, odlaw, .func (PySem.W.fnOf "law" "law" (defArgs s_law) (defBody s_law) (defScope s_law) .none kVlaw dclaw pmlaw anlaw cdlaw ctlaw), sllaw⟩)
    (claw : PySem.W.codeIn K cdlaw "law" = true)
    (klaw : PySem.W.keepIn K (.ref flaw) = true)
    (pg : PySem.W.plainGet K C Str.empty = true)
    (hd : PySem.W.hasDictIn K C = true)
    (po : PySem.W.plainOver K C = true)
    (sa : PySem.W.findIn K (.ref C) "__setattr__" = some (some (.builtin "object.__setattr__")))
    (mk : PySem.W.makesIn K C = true)
    (kc : PySem.W.keepIn K (.ref C) = true)
    (nT : PySem.W.findIn K (.ref C) "own_top" = some none)
    (nB : PySem.W.findIn K (.ref C) "own_bottom" = some none)
    (ca : PySem.W.findIn K (.ref C) "__class__" = some (some (.builtin "object.__class__")))
    (cn : PySem.W.specialIn K (.builtin "object.__class__") "__get__" = some (some (.builtin "getset_descriptor.__get__")))
    (ct : PySem.W.takesIn K (.builtin "object.__class__") = some true)
    (cm : PySem.W.mroIn K C (.type "object") = some true)
    (oi : PySem.W.kitOne K (.ref C) (.type "int") = some false)
    (oo : PySem.W.kitOne K (.ref C) (.ref C) = some true)
    (io : PySem.W.kitOne K (.type "int") (.ref C) = some false)
    (ii : PySem.W.kitOne K (.type "int") (.type "int") = some true)
    (ib : PySem.W.kitOne K (.type "int") (.type "bool") = some false)
    (kl : PySem.W.kitAny K (.type "list") [.type "list", .type "tuple"] = some true)
    (kt : PySem.W.kitAny K (.type "tuple") [.type "list", .type "tuple"] = some true)
    (sf : PySem.W.selfFirst K C = true)
    (si : PySem.W.subIn K (.type "int") (.ref C) = some false)
    (sr : PySem.W.subIn K (.ref C) (.type "int") = some false)
    (fiadd : PySem.W.findIn K (.type "int") "__add__" = some foadd)
    (riadd : PySem.W.findIn K (.type "int") "__radd__" = some roadd)
    (siadd : ((foadd.isSome && !isSeqSlot foadd) || (roadd.isSome && !isSeqSlot roadd)) = true)
    (fisub : PySem.W.findIn K (.type "int") "__sub__" = some fosub)
    (risub : PySem.W.findIn K (.type "int") "__rsub__" = some rosub)
    (sisub : ((fosub.isSome && !isSeqSlot fosub) || (rosub.isSome && !isSeqSlot rosub)) = true)
    (fimul : PySem.W.findIn K (.type "int") "__mul__" = some fomul)
    (rimul : PySem.W.findIn K (.type "int") "__rmul__" = some romul)
    (simul : ((fomul.isSome && !isSeqSlot fomul) || (romul.isSome && !isSeqSlot romul)) = true)
    (ne : PySem.W.findIn K (.ref C) "__ne__" = some (some (.builtin "object.__ne__")))
    (nfo : PySem.W.notFirst K C (.ref C) = true)
    (nfint : PySem.W.notFirst K C (.type "int") = true)
    (kqstr : PySem.W.kitOne K (.type "str") (.ref C) = some false)
    (nfstr : PySem.W.notFirst K C (.type "str") = true)
    (kqlist : PySem.W.kitOne K (.type "list") (.ref C) = some false)
    (nflist : PySem.W.notFirst K C (.type "list") = true)
    (kqtuple : PySem.W.kitOne K (.type "tuple") (.ref C) = some false)
    (nftuple : PySem.W.notFirst K C (.type "tuple") = true)
    (kqdict : PySem.W.kitOne K (.type "dict") (.ref C) = some false)
    (nfdict : PySem.W.notFirst K C (.type "dict") = true)
    (zisinstance : PySem.W.nsIn K mainGlobals "isinstance" = some none)
    (zint : PySem.W.nsIn K mainGlobals "int" = some none)
    (zbool : PySem.W.nsIn K mainGlobals "bool" = some none)
    (zabs : PySem.W.nsIn K mainGlobals "abs" = some none)
    (zstr : PySem.W.nsIn K mainGlobals "str" = some none)
    (zlist : PySem.W.nsIn K mainGlobals "list" = some none)
    (ztuple : PySem.W.nsIn K mainGlobals "tuple" = some none)
    (zlen : PySem.W.nsIn K mainGlobals "len" = some none)
    (zmax : PySem.W.nsIn K mainGlobals "max" = some none)
    (zmin : PySem.W.nsIn K mainGlobals "min" = some none)
    (zdivmod : PySem.W.nsIn K mainGlobals "divmod" = some none)
    (zrepr : PySem.W.nsIn K mainGlobals "repr" = some none)
    (zall : PySem.W.nsIn K mainGlobals "all" = some none)
    (zrange : PySem.W.nsIn K mainGlobals "range" = some none)
    (zzip : PySem.W.nsIn K mainGlobals "zip" = some none)
    (aP : PySem.W.nsIn K mainGlobals "PART" = some (some (.int (10 ^ 60) tP)))
    (aG : PySem.W.nsIn K mainGlobals "gcd" = some (some (.builtin "math.gcd")))
    : ∃ fd : FuncData, (∀ (s : Shared) (v : Value), BindsTo s fd ⟨[v], []⟩ [("_law_script", v)]) ∧ ∀ base : Heap, K.In base → base.Ns mainGlobals mg → FnB true l.prog w K mg base 8 fa fd ["_law_script"] (spLaw 63 K) := by
  have e := hfa.symm.trans (PySem.W.mg_of X G alaw)
  cases e
  have Fis_integer := fun_mk (st := s_is_integer) lis_integer cis_integer kis_integer
  have bis_integer := Fis_integer.binds (ps := ["value"]) fun _ _ _ _ _ _ us hl => match us, hl with | [_], _ => rfl
  have gis_integer := PySem.W.mg_of X G ais_integer
  have Fis_list := fun_mk (st := s_is_list) lis_list cis_list kis_list
  have bis_list := Fis_list.binds (ps := ["value"]) fun _ _ _ _ _ _ us hl => match us, hl with | [_], _ => rfl
  have gis_list := PySem.W.mg_of X G ais_list
  have Fdigits_of := fun_mk (st := s_digits_of) ldigits_of cdigits_of kdigits_of
  have bdigits_of := Fdigits_of.binds (ps := ["number"]) fun _ _ _ _ _ _ us hl => match us, hl with | [_], _ => rfl
  have gdigits_of := PySem.W.mg_of X G adigits_of
  have Fcommon_part := fun_mk (st := s_common_part) lcommon_part ccommon_part kcommon_part
  have bcommon_part := Fcommon_part.binds (ps := ["one", "other"]) fun _ _ _ _ _ _ us hl => match us, hl with | [_, _], _ => rfl
  have gcommon_part := PySem.W.mg_of X G acommon_part
  have FRinit := funD_mk (st := s_Ratio_init) lRinit cRinit kRinit lT
  have FRtop := fun_mk (st := s_Ratio_top) lRtop cRtop kRtop
  have bRtop := FRtop.binds (ps := ["self"]) fun _ _ _ _ _ _ us hl => match us, hl with | [_], _ => rfl
  have FRbottom := fun_mk (st := s_Ratio_bottom) lRbottom cRbottom kRbottom
  have bRbottom := FRbottom.binds (ps := ["self"]) fun _ _ _ _ _ _ us hl => match us, hl with | [_], _ => rfl
  have FRsign := fun_mk (st := s_Ratio_sign) lRsign cRsign kRsign
  have bRsign := FRsign.binds (ps := ["self"]) fun _ _ _ _ _ _ us hl => match us, hl with | [_], _ => rfl
  have FRis_whole := fun_mk (st := s_Ratio_is_whole) lRis_whole cRis_whole kRis_whole
  have bRis_whole := FRis_whole.binds (ps := ["self"]) fun _ _ _ _ _ _ us hl => match us, hl with | [_], _ => rfl
  have FRtotal := fun_mk (st := s_Ratio_total) lRtotal cRtotal kRtotal
  have FRadd := fun_mk (st := s_Ratio_add) lRadd cRadd kRadd
  have bRadd := FRadd.binds (ps := ["self", "other"]) fun _ _ _ _ _ _ us hl => match us, hl with | [_, _], _ => rfl
  have FRradd := fun_mk (st := s_Ratio_radd) lRradd cRradd kRradd
  have bRradd := FRradd.binds (ps := ["self", "other"]) fun _ _ _ _ _ _ us hl => match us, hl with | [_, _], _ => rfl
  have FRsub := fun_mk (st := s_Ratio_sub) lRsub cRsub kRsub
  have bRsub := FRsub.binds (ps := ["self", "other"]) fun _ _ _ _ _ _ us hl => match us, hl with | [_, _], _ => rfl
  have FRrsub := fun_mk (st := s_Ratio_rsub) lRrsub cRrsub kRrsub
  have bRrsub := FRrsub.binds (ps := ["self", "other"]) fun _ _ _ _ _ _ us hl => match us, hl with | [_, _], _ => rfl
  have FRmul := fun_mk (st := s_Ratio_mul) lRmul cRmul kRmul
  have bRmul := FRmul.binds (ps := ["self", "other"]) fun _ _ _ _ _ _ us hl => match us, hl with | [_, _], _ => rfl
  have FRrmul := fun_mk (st := s_Ratio_rmul) lRrmul cRrmul kRrmul
  have bRrmul := FRrmul.binds (ps := ["self", "other"]) fun _ _ _ _ _ _ us hl => match us, hl with | [_, _], _ => rfl
  have FRneg := fun_mk (st := s_Ratio_neg) lRneg cRneg kRneg
  have bRneg := FRneg.binds (ps := ["self"]) fun _ _ _ _ _ _ us hl => match us, hl with | [_], _ => rfl
  have FRover := fun_mk (st := s_Ratio_over) lRover cRover kRover
  have bRover := FRover.binds (ps := ["self", "other"]) fun _ _ _ _ _ _ us hl => match us, hl with | [_, _], _ => rfl
  have FRsize := fun_mk (st := s_Ratio_size) lRsize cRsize kRsize
  have bRsize := FRsize.binds (ps := ["self"]) fun _ _ _ _ _ _ us hl => match us, hl with | [_], _ => rfl
  have FRis_below := fun_mk (st := s_Ratio_is_below) lRis_below cRis_below kRis_below
  have bRis_below := FRis_below.binds (ps := ["self", "other"]) fun _ _ _ _ _ _ us hl => match us, hl with | [_, _], _ => rfl
  have FRis_at_most := fun_mk (st := s_Ratio_is_at_most) lRis_at_most cRis_at_most kRis_at_most
  have bRis_at_most := FRis_at_most.binds (ps := ["self", "other"]) fun _ _ _ _ _ _ us hl => match us, hl with | [_, _], _ => rfl
  have FReq := fun_mk (st := s_Ratio_eq) lReq cReq kReq
  have bReq := FReq.binds (ps := ["self", "other"]) fun _ _ _ _ _ _ us hl => match us, hl with | [_, _], _ => rfl
  have FRstr := fun_mk (st := s_Ratio_str) lRstr cRstr kRstr
  have bRstr := FRstr.binds (ps := ["self"]) fun _ _ _ _ _ _ us hl => match us, hl with | [_], _ => rfl
  have FRrepr := fun_mk (st := s_Ratio_repr) lRrepr cRrepr kRrepr
  have bRrepr := FRrepr.binds (ps := ["self"]) fun _ _ _ _ _ _ us hl => match us, hl with | [_], _ => rfl
  have Ftold_pair := fun_mk (st := s_told_pair) ltold_pair ctold_pair ktold_pair
  have btold_pair := Ftold_pair.binds (ps := ["value"]) fun _ _ _ _ _ _ us hl => match us, hl with | [_], _ => rfl
  have gtold_pair := PySem.W.mg_of X G atold_pair
  have Fis_number := fun_mk (st := s_is_number) lis_number cis_number kis_number
  have bis_number := Fis_number.binds (ps := ["value"]) fun _ _ _ _ _ _ us hl => match us, hl with | [_], _ => rfl
  have gis_number := PySem.W.mg_of X G ais_number
  have Fratio_of := fun_mk (st := s_ratio_of) lratio_of cratio_of kratio_of
  have bratio_of := Fratio_of.binds (ps := ["number"]) fun _ _ _ _ _ _ us hl => match us, hl with | [_], _ => rfl
  have gratio_of := PySem.W.mg_of X G aratio_of
  have Fwant_number := fun_mk (st := s_want_number) lwant_number cwant_number kwant_number
  have bwant_number := Fwant_number.binds (ps := ["value"]) fun _ _ _ _ _ _ us hl => match us, hl with | [_], _ => rfl
  have gwant_number := PySem.W.mg_of X G awant_number
  have Ftotal_of := fun_mk (st := s_total_of) ltotal_of ctotal_of ktotal_of
  have btotal_of := Ftotal_of.binds (ps := ["ratios"]) fun _ _ _ _ _ _ us hl => match us, hl with | [_], _ => rfl
  have gtotal_of := PySem.W.mg_of X G atotal_of
  have Flaw_pot := fun_mk (st := s_law_pot) llaw_pot claw_pot klaw_pot
  have blaw_pot := Flaw_pot.binds (ps := ["_law_script", "_law_k"]) fun _ _ _ _ _ _ us hl => match us, hl with | [_, _], _ => rfl
  have glaw_pot := PySem.W.mg_of X G alaw_pot
  have Flaw_draw := fun_mk (st := s_law_draw) llaw_draw claw_draw klaw_draw
  have blaw_draw := Flaw_draw.binds (ps := ["_law_pot_here", "_law_many"]) fun _ _ _ _ _ _ us hl => match us, hl with | [_, _], _ => rfl
  have glaw_draw := PySem.W.mg_of X G alaw_draw
  have Flaw_low := fun_mk (st := s_law_low) llaw_low claw_low klaw_low
  have blaw_low := Flaw_low.binds (ps := ["_law_top", "_law_bottom"]) fun _ _ _ _ _ _ us hl => match us, hl with | [_, _], _ => rfl
  have glaw_low := PySem.W.mg_of X G alaw_low
  have Flaw_number := fun_mk (st := s_law_number) llaw_number claw_number klaw_number
  have blaw_number := Flaw_number.binds (ps := ["_law_pot_here"]) fun _ _ _ _ _ _ us hl => match us, hl with | [_], _ => rfl
  have glaw_number := PySem.W.mg_of X G alaw_number
  have Flaw_is := fun_mk (st := s_law_is) llaw_is claw_is klaw_is
  have blaw_is := Flaw_is.binds (ps := ["_law_told", "_law_pair"]) fun _ _ _ _ _ _ us hl => match us, hl with | [_, _], _ => rfl
  have glaw_is := PySem.W.mg_of X G alaw_is
  have Flaw_pair_right := fun_mk (st := s_law_pair_right) llaw_pair_right claw_pair_right klaw_pair_right
  have blaw_pair_right := Flaw_pair_right.binds (ps := ["_law_one", "_law_other", "_law_near", "_law_far"]) fun _ _ _ _ _ _ us hl => match us, hl with | [_, _, _, _], _ => rfl
  have glaw_pair_right := PySem.W.mg_of X G alaw_pair_right
  have Flaw_whole_right := fun_mk (st := s_law_whole_right) llaw_whole_right claw_whole_right klaw_whole_right
  have blaw_whole_right := Flaw_whole_right.binds (ps := ["_law_one", "_law_near", "_law_whole"]) fun _ _ _ _ _ _ us hl => match us, hl with | [_, _, _], _ => rfl
  have glaw_whole_right := PySem.W.mg_of X G alaw_whole_right
  have Flaw_right := fun_mk (st := s_law_right) llaw_right claw_right klaw_right
  have blaw_right := Flaw_right.binds (ps := ["_law_pot_here"]) fun _ _ _ _ _ _ us hl => match us, hl with | [_], _ => rfl
  have glaw_right := PySem.W.mg_of X G alaw_right
  have Flaw := fun_mk (st := s_law) llaw claw klaw
  have blaw := Flaw.binds (ps := ["_law_script"]) fun _ _ _ _ _ _ us hl => match us, hl with | [_], _ => rfl
  have glaw := PySem.W.mg_of X G alaw
  obtain ⟨i1, iv1, ib1⟩ := FRinit.binds1 (ps := ["self", "top", "bottom"]) 2 0 (by simp) rfl fun _ _ _ _ _ _ _ us its hl h2 => match us, hl, its, h2 with | [_, _], _, [_], _ => ⟨_, rfl, rfl⟩
  obtain ⟨i2, iv2, ib2⟩ := FRinit.binds1 (ps := ["self", "top", "bottom"]) 3 1 (by simp) rfl fun _ _ _ _ _ _ _ us its hl h2 => match us, hl, its, h2 with | [_, _, _], _, [_], _ => ⟨_, rfl, rfl⟩
  have ik : KBp K _ ["self", "top", "bottom"] 1 ["bottom", "top"] [0, 2, 1] := kbp_ofD FRinit (by simp) fun _ _ _ _ _ _ _ us ws its h1 h2 h3 => match us, h1, ws, h2, its, h3 with | [_], _, [_, _], _, [_], _ => ⟨_, rfl, rfl⟩
  have ok1 : KBp K _ ["self", "other"] 1 ["other"] [0, 1] := kbp_of FRover fun _ _ _ _ _ _ us ws h1 h2 => match us, h1, ws, h2 with | [_], _, [_], _ => rfl
  have ok2 : KBp K _ ["self", "other"] 1 ["other"] [0, 1] := kbp_of FRis_below fun _ _ _ _ _ _ us ws h1 h2 => match us, h1, ws, h2 with | [_], _, [_], _ => rfl
  have ok3 : KBp K _ ["cls", "numbers"] 2 [] [0, 1] := kbp_of FRtotal fun _ _ _ _ _ _ us ws h1 h2 => match us, h1, ws, h2 with | [_, _], _, [], _ => rfl
  have ok4 : KBp K _ ["cls", "numbers"] 1 ["numbers"] [0, 1] := kbp_of FRtotal fun _ _ _ _ _ _ us ws h1 h2 => match us, h1, ws, h2 with | [_], _, [_], _ => rfl
  refine ⟨PySem.W.fnOf "law" "law" (defArgs s_law) (defBody s_law) (defScope s_law) .none kVlaw dclaw pmlaw anlaw cdlaw ctlaw, fun s v => .of_eq rfl, fun base hb hns => ?_⟩
  have B : Bi mg := ⟨PySem.W.mg_none_of X G zisinstance, PySem.W.mg_none_of X G zint, PySem.W.mg_none_of X G zbool, PySem.W.mg_none_of X G zabs, PySem.W.mg_none_of X G zstr, PySem.W.mg_none_of X G zlist, PySem.W.mg_none_of X G ztuple⟩
  have cl : Cls K C := ⟨pg, hd, po, sa⟩
  have R : Rc K mg C := ⟨cl, nT, nB, PySem.W.mg_of X G aC, ca, cn, ct, cm, oi, oo, io, ii, ib⟩
  have Cis_integer := cal_of (ok_is_integer (P := l.prog) (w := w) (base := base) (FunG.of Fis_integer) B R) gis_integer kis_integer bis_integer
  have Cis_list := cal_of (ok_is_list (P := l.prog) (w := w) (base := base) (FunG.of Fis_list) B kl kt) gis_list kis_list bis_list
  have Cdigits_of := cal_of (ok_digits_of (P := l.prog) (w := w) (base := base) (FunG.of Fdigits_of) B (PySem.W.mg_of X G aP)) gdigits_of kdigits_of bdigits_of
  have Ccommon_part := cal_of (ok_common_part (P := l.prog) (w := w) (base := base) (FunG.of Fcommon_part) (PySem.W.mg_of X G aG)) gcommon_part kcommon_part bcommon_part
  have OI := fnOk_of (ok_Ratio_init (P := l.prog) (w := w) (base := base) (FunG.ofD FRinit) R Cis_integer Ccommon_part)
  have mkk : Mk K C fRinit := ⟨mk, aRinit, iRinit, kc⟩
  have mk1 : Mak l.prog w K mg base 2 "Ratio" C (spIO K (T_init C)) [.int 1] := ⟨_, _, _, _, mkk, OI, PySem.W.mg_of X G aC, ib1, iv1⟩
  have mk2 : Mak l.prog w K mg base 2 "Ratio" C (spIO K (T_init C)) [] := ⟨_, _, _, _, mkk, OI, PySem.W.mg_of X G aC, ib2, iv2⟩
  have mkK : MakK l.prog w K mg base 2 "Ratio" C (spIO K (T_init C)) ["bottom", "top"] [0, 2, 1] := ⟨_, _, _, mkk, OI, PySem.W.mg_of X G aC, ik⟩
  have Ctold_pair := cal_of (ok_told_pair (P := l.prog) (w := w) (base := base) (FunG.of Ftold_pair) B R Cis_integer) gtold_pair ktold_pair btold_pair
  have Cis_number := cal_of (ok_is_number (P := l.prog) (w := w) (base := base) (FunG.of Fis_number) B R Cis_integer) gis_number kis_number bis_number
  have Cratio_of := cal_of (ok_ratio_of (P := l.prog) (w := w) (base := base) (FunG.of Fratio_of) B R mk1) gratio_of kratio_of bratio_of
  have Cwant_number := cal_of (ok_want_number (P := l.prog) (w := w) (base := base) (FunG.of Fwant_number) Cis_number Cratio_of) gwant_number kwant_number bwant_number
  have Oadd := fnOk_of (ok_Ratio_add (P := l.prog) (w := w) (base := base) (FunG.of FRadd) R Ctold_pair mk2)
  have Oradd := fnOk_of (ok_Ratio_radd (P := l.prog) (w := w) (base := base) (FunG.of FRradd) R Ctold_pair mk2)
  have Osub := fnOk_of (ok_Ratio_sub (P := l.prog) (w := w) (base := base) (FunG.of FRsub) R Ctold_pair mk2)
  have Orsub := fnOk_of (ok_Ratio_rsub (P := l.prog) (w := w) (base := base) (FunG.of FRrsub) R Ctold_pair mk2)
  have Omul := fnOk_of (ok_Ratio_mul (P := l.prog) (w := w) (base := base) (FunG.of FRmul) R Ctold_pair mk2)
  have Ormul := fnOk_of (ok_Ratio_rmul (P := l.prog) (w := w) (base := base) (FunG.of FRrmul) R Ctold_pair mk2)
  have Oover := fnOk_of (ok_Ratio_over (P := l.prog) (w := w) (base := base) (FunG.of FRover) R Ctold_pair mk2)
  have ocadd : OpC K C "add" fRadd := ⟨sf, aRadd, iRadd⟩
  have oradd : OpR1 K C "add" fRradd := ⟨sf, ⟨_, aRadd⟩, aRradd, iRradd, ⟨_, _, fiadd, riadd, siadd⟩, sr⟩
  have ocsub : OpC K C "sub" fRsub := ⟨sf, aRsub, iRsub⟩
  have orsub : OpR1 K C "sub" fRrsub := ⟨sf, ⟨_, aRsub⟩, aRrsub, iRrsub, ⟨_, _, fisub, risub, sisub⟩, sr⟩
  have ocmul : OpC K C "mul" fRmul := ⟨sf, aRmul, iRmul⟩
  have ormul : OpR1 K C "mul" fRrmul := ⟨sf, ⟨_, aRmul⟩, aRrmul, iRrmul, ⟨_, _, fimul, rimul, simul⟩, sr⟩
  have Oneg := fnOk_of (ok_Ratio_neg (P := l.prog) (w := w) (base := base) (FunG.of FRneg) R mk2)
  have Osize := fnOk_of (ok_Ratio_size (P := l.prog) (w := w) (base := base) (FunG.of FRsize) B R mk2)
  have Obelow := fnOk_of (ok_Ratio_is_below (P := l.prog) (w := w) (base := base) (FunG.of FRis_below) R Ctold_pair)
  have Omost := fnOk_of (ok_Ratio_is_at_most (P := l.prog) (w := w) (base := base) (FunG.of FRis_at_most) R Ctold_pair)
  have Oeq := fnOk_of (ok_Ratio_eq (P := l.prog) (w := w) (base := base) (FunG.of FReq) B R)
  have Otop := fnOk_of (ok_Ratio_top (P := l.prog) (w := w) (base := base) (FunG.of FRtop) R)
  have Obot := fnOk_of (ok_Ratio_bottom (P := l.prog) (w := w) (base := base) (FunG.of FRbottom) R)
  have Osgn := fnOk_of (ok_Ratio_sign (P := l.prog) (w := w) (base := base) (FunG.of FRsign) B R)
  have Owho := fnOk_of (ok_Ratio_is_whole (P := l.prog) (w := w) (base := base) (FunG.of FRis_whole) R)
  have Ostr := fnOk_of (ok_Ratio_str (P := l.prog) (w := w) (base := base) (FunG.of FRstr) R Cdigits_of)
  have Orep := fnOk_of (ok_Ratio_repr (P := l.prog) (w := w) (base := base) (FunG.of FRrepr) R Cdigits_of)
  have oadd : OwnOp l.prog w K mg base 4 C "add" (S_op C (fun _ _ => True) fun x y => x + y) := ⟨_, _, _, ocadd, Oadd, bRadd⟩
  have Ctotal_of := cal_of (ok_total_of (P := l.prog) (w := w) (base := base) (FunG.of Ftotal_of) mk1 oadd) gtotal_of ktotal_of btotal_of
  have Otot := fnOk_of (ok_Ratio_total (P := l.prog) (w := w) (base := base) (FunG.of FRtotal) Cis_list Cwant_number Ctotal_of)
  have RO : Ro l.prog w K mg base C := {
    bi := B
    rc := R
    mkR := mk2
    mkI := mk1
    mkK := mkK
    add := oadd
    sub := ⟨_, _, _, ocsub, Osub, bRsub⟩
    mul := ⟨_, _, _, ocmul, Omul, bRmul⟩
    radd := ⟨_, _, _, oradd, Oradd, bRradd⟩
    rsub := ⟨_, _, _, orsub, Orsub, bRrsub⟩
    rmul := ⟨_, _, _, ormul, Ormul, bRrmul⟩
    iadd := ⟨⟨_, aRradd, .inr ⟨_, rfl⟩⟩, ⟨_, fiadd⟩, ⟨_, riadd⟩, si⟩
    isub := ⟨⟨_, aRrsub, .inr ⟨_, rfl⟩⟩, ⟨_, fisub⟩, ⟨_, risub⟩, si⟩
    imul := ⟨⟨_, aRrmul, .inr ⟨_, rfl⟩⟩, ⟨_, fimul⟩, ⟨_, rimul⟩, si⟩
    neg := ⟨_, _, _, aRneg, iRneg, Oneg, bRneg⟩
    over := ⟨_, _, _, _, cl, ⟨aRover, iRover, kRover⟩, Oover, bRover, .nil⟩
    overK := ⟨_, _, _, cl, ⟨aRover, iRover, kRover⟩, Oover, ok1⟩
    size := ⟨_, _, _, _, cl, ⟨aRsize, iRsize, kRsize⟩, Osize, bRsize, .nil⟩
    below := ⟨_, _, _, _, cl, ⟨aRis_below, iRis_below, kRis_below⟩, Obelow, bRis_below, .nil⟩
    belowK := ⟨_, _, _, cl, ⟨aRis_below, iRis_below, kRis_below⟩, Obelow, ok2⟩
    most := ⟨_, _, _, _, cl, ⟨aRis_at_most, iRis_at_most, kRis_at_most⟩, Omost, bRis_at_most, .nil⟩
    eq := ⟨_, _, _, aReq, iReq, Oeq, bReq⟩
    ne := ne
    nfo := nfo
    ptop := ⟨_, _, _, _, ⟨aRtop, sRtop, tRtop, ⟨_, rRtop⟩⟩, Otop, bRtop⟩
    pbot := ⟨_, _, _, _, ⟨aRbottom, sRbottom, tRbottom, ⟨_, rRbottom⟩⟩, Obot, bRbottom⟩
    psgn := ⟨_, _, _, _, ⟨aRsign, sRsign, tRsign, ⟨_, rRsign⟩⟩, Osgn, bRsign⟩
    pwho := ⟨_, _, _, _, ⟨aRis_whole, sRis_whole, tRis_whole, ⟨_, rRis_whole⟩⟩, Owho, bRis_whole⟩
    sstr := ⟨_, _, _, aRstr, iRstr, Ostr, bRstr⟩
    srep := ⟨_, _, _, aRrepr, iRrepr, Orep, bRrepr⟩
    total := ⟨_, _, _, _, _, ⟨rd, ga⟩, ⟨aRtotal, ⟨_, rRtotal⟩, iRtotal⟩, Otot, ok3⟩
    totalK := ⟨_, _, _, _, _, ⟨rd, ga⟩, ⟨aRtotal, ⟨_, rRtotal⟩, iRtotal⟩, Otot, ok4⟩
    qi := ⟨io, nfint⟩
    qs := ⟨kqstr, nfstr⟩
    ql := ⟨kqlist, nflist⟩
    qt := ⟨kqtuple, nftuple⟩
    qd := ⟨kqdict, nfdict⟩ }
  have Claw_pot := cal_of (ok_law_pot (gd := true) (P := l.prog) (w := w) (base := base) (FunG.of Flaw_pot) B (PySem.W.mg_none_of X G zlen) (PySem.W.mg_none_of X G zmax)) glaw_pot klaw_pot blaw_pot
  have Claw_draw := cal_of (ok_law_draw (gd := false) (P := l.prog) (w := w) (base := base) (FunG.of Flaw_draw) B (PySem.W.mg_none_of X G zdivmod)) glaw_draw klaw_draw blaw_draw
  have Claw_low := cal_of (ok_law_low (gd := true) (P := l.prog) (w := w) (base := base) (FunG.of Flaw_low) B) glaw_low klaw_low blaw_low
  have Claw_number := cal_of (ok_law_number (gd := false) (P := l.prog) (w := w) (base := base) (FunG.of Flaw_number) Claw_draw) glaw_number klaw_number blaw_number
  have Claw_is := cal_of (ok_law_is (P := l.prog) (w := w) (base := base) (FunG.of Flaw_is) RO (PySem.W.mg_none_of X G zrepr)) glaw_is klaw_is blaw_is
  have Claw_pair_right := cal_of (ok_law_pair_right (P := l.prog) (w := w) (base := base) (FunG.of Flaw_pair_right) RO Claw_low Claw_is (PySem.W.mg_none_of X G zall) (PySem.W.mg_none_of X G zrepr)) glaw_pair_right klaw_pair_right blaw_pair_right
  have Claw_whole_right := cal_of (ok_law_whole_right (P := l.prog) (w := w) (base := base) (FunG.of Flaw_whole_right) RO Claw_low Claw_is (PySem.W.mg_none_of X G zall) (PySem.W.mg_none_of X G zrepr)) glaw_whole_right klaw_whole_right blaw_whole_right
  have Claw_right := cal_of (ok_law_right (P := l.prog) (w := w) (base := base) (FunG.of Flaw_right) RO Claw_draw Claw_number Claw_low Claw_is Claw_pair_right Claw_whole_right (PySem.W.mg_none_of X G zall) (PySem.W.mg_none_of X G zrange) (PySem.W.mg_none_of X G zzip)) glaw_right klaw_right blaw_right
  exact ok_law (FunG.of Flaw) Claw_right Claw_pot (PySem.W.mg_none_of X G zall) (PySem.W.mg_none_of X G zrange) (PySem.W.mg_none_of X G zmax) (PySem.W.mg_none_of X G zmin) (PySem.W.mg_none_of X G zlen)
end Dn
open PySem PySem.W PyProof.Rows in
set_option maxHeartbeats 0 in
theorem PySem.Challenge.cw_straightened_k11_whole_ratios_reckoned_holds : PySem.Challenge.rw_straightened_k11_whole_ratios_reckoned.Holds := by
  refine head11 ?_
  k_fill
  refine Dn.walk_D (l := PySem.Challenge.rw_straightened_k11_whole_ratios_reckoned) (n := 63) (k := 8) (x := "_law_script") (sp := Dn.spLaw 63) rfl rfl (fun w h Y => PySem.W.kIn_of Y) ?F (fun K H a ns h1 h2 hS => Dn.spLaw_of h1 h2 hS)
  case F =>
    intro w mg fa h KX G hmg
    refine' Dn.k11_all (l := PySem.Challenge.rw_straightened_k11_whole_ratios_reckoned) KX G hmg ?aC ?ais_integer ?lis_integer ?cis_integer ?kis_integer ?ais_list ?lis_list ?cis_list ?kis_list ?adigits_of ?ldigits_of ?cdigits_of ?kdigits_of ?acommon_part ?lcommon_part ?ccommon_part ?kcommon_part ?aRinit ?iRinit ?lRinit ?lT ?cRinit ?kRinit ?aRtop ?sRtop ?tRtop ?rRtop ?lRtop ?cRtop ?kRtop ?aRbottom ?sRbottom ?tRbottom ?rRbottom ?lRbottom ?cRbottom ?kRbottom ?aRsign ?sRsign ?tRsign ?rRsign ?lRsign ?cRsign ?kRsign ?aRis_whole ?sRis_whole ?tRis_whole ?rRis_whole ?lRis_whole ?cRis_whole ?kRis_whole ?rd ?ga ?aRtotal ?rRtotal ?iRtotal ?lRtotal ?cRtotal ?kRtotal ?aRadd ?iRadd ?lRadd ?cRadd ?kRadd ?aRradd ?iRradd ?lRradd ?cRradd ?kRradd ?aRsub ?iRsub ?lRsub ?cRsub ?kRsub ?aRrsub ?iRrsub ?lRrsub ?cRrsub ?kRrsub ?aRmul ?iRmul ?lRmul ?cRmul ?kRmul ?aRrmul ?iRrmul ?lRrmul ?cRrmul ?kRrmul ?aRneg ?iRneg ?lRneg ?cRneg ?kRneg ?aRover ?iRover ?lRover ?cRover ?kRover ?aRsize ?iRsize ?lRsize ?cRsize ?kRsize ?aRis_below ?iRis_below ?lRis_below ?cRis_below ?kRis_below ?aRis_at_most ?iRis_at_most ?lRis_at_most ?cRis_at_most ?kRis_at_most ?aReq ?iReq ?lReq ?cReq ?kReq ?aRstr ?iRstr ?lRstr ?cRstr ?kRstr ?aRrepr ?iRrepr ?lRrepr ?cRrepr ?kRrepr ?atold_pair ?ltold_pair ?ctold_pair ?ktold_pair ?ais_number ?lis_number ?cis_number ?kis_number ?aratio_of ?lratio_of ?cratio_of ?kratio_of ?awant_number ?lwant_number ?cwant_number ?kwant_number ?atotal_of ?ltotal_of ?ctotal_of ?ktotal_of ?alaw_pot ?llaw_pot ?claw_pot ?klaw_pot ?alaw_draw ?llaw_draw ?claw_draw ?klaw_draw ?alaw_low ?llaw_low ?claw_low ?klaw_low ?alaw_number ?llaw_number ?claw_number ?klaw_number ?alaw_is ?llaw_is ?claw_is ?klaw_is ?alaw_pair_right ?llaw_pair_right ?claw_pair_right ?klaw_pair_right ?alaw_whole_right ?llaw_whole_right ?claw_whole_right ?klaw_whole_right ?alaw_right ?llaw_right ?claw_right ?klaw_right ?alaw ?llaw ?claw ?klaw ?pg ?hd ?po ?sa ?mk ?kc ?nT ?nB ?ca ?cn ?ct ?cm ?oi ?oo ?io ?ii ?ib ?kl ?kt ?sf ?si ?sr ?fiadd ?riadd ?siadd ?fisub ?risub ?sisub ?fimul ?rimul ?simul ?ne ?nfo ?nfint ?kqstr ?nfstr ?kqlist ?nflist ?kqtuple ?nftuple ?kqdict ?nfdict ?zisinstance ?zint ?zbool ?zabs ?zstr ?zlist ?ztuple ?zlen ?zmax ?zmin ?zdivmod ?zrepr ?zall ?zrange ?zzip ?aP ?aG
    (case aC => k_is)
    (case ais_integer => k_is)
    (case lis_integer => k_is)
    (case cis_integer => k_is)
    (case kis_integer => k_is)
    (case ais_list => k_is)
    (case lis_list => k_is)
    (case cis_list => k_is)
    (case kis_list => k_is)
    (case adigits_of => k_is)
    (case ldigits_of => k_is)
    (case cdigits_of => k_is)
    (case kdigits_of => k_is)
    (case acommon_part => k_is)
    (case lcommon_part => k_is)
    (case ccommon_part => k_is)
    (case kcommon_part => k_is)
    (case aRinit => k_is)
    (case iRinit => k_is)
    (case lRinit => k_is)
    (case lT => k_is)
    (case cRinit => k_is)
    (case kRinit => k_is)
    (case aRtop => k_is)
    (case sRtop => k_is)
    (case tRtop => k_is)
    (case rRtop => k_is)
    (case lRtop => k_is)
    (case cRtop => k_is)
    (case kRtop => k_is)
    (case aRbottom => k_is)
    (case sRbottom => k_is)
    (case tRbottom => k_is)
    (case rRbottom => k_is)
    (case lRbottom => k_is)
    (case cRbottom => k_is)
    (case kRbottom => k_is)
    (case aRsign => k_is)
    (case sRsign => k_is)
    (case tRsign => k_is)
    (case rRsign => k_is)
    (case lRsign => k_is)
    (case cRsign => k_is)
    (case kRsign => k_is)
    (case aRis_whole => k_is)
    (case sRis_whole => k_is)
    (case tRis_whole => k_is)
    (case rRis_whole => k_is)
    (case lRis_whole => k_is)
    (case cRis_whole => k_is)
    (case kRis_whole => k_is)
    (case rd => k_is)
    (case ga => k_is)
    (case aRtotal => k_is)
    (case rRtotal => k_is)
    (case iRtotal => k_is)
    (case lRtotal => k_is)
    (case cRtotal => k_is)
    (case kRtotal => k_is)
    (case aRadd => k_is)
    (case iRadd => k_is)
    (case lRadd => k_is)
    (case cRadd => k_is)
    (case kRadd => k_is)
    (case aRradd => k_is)
    (case iRradd => k_is)
    (case lRradd => k_is)
    (case cRradd => k_is)
    (case kRradd => k_is)
    (case aRsub => k_is)
    (case iRsub => k_is)
    (case lRsub => k_is)
    (case cRsub => k_is)
    (case kRsub => k_is)
    (case aRrsub => k_is)
    (case iRrsub => k_is)
    (case lRrsub => k_is)
    (case cRrsub => k_is)
    (case kRrsub => k_is)
    (case aRmul => k_is)
    (case iRmul => k_is)
    (case lRmul => k_is)
    (case cRmul => k_is)
    (case kRmul => k_is)
    (case aRrmul => k_is)
    (case iRrmul => k_is)
    (case lRrmul => k_is)
    (case cRrmul => k_is)
    (case kRrmul => k_is)
    (case aRneg => k_is)
    (case iRneg => k_is)
    (case lRneg => k_is)
    (case cRneg => k_is)
    (case kRneg => k_is)
    (case aRover => k_is)
    (case iRover => k_is)
    (case lRover => k_is)
    (case cRover => k_is)
    (case kRover => k_is)
    (case aRsize => k_is)
    (case iRsize => k_is)
    (case lRsize => k_is)
    (case cRsize => k_is)
    (case kRsize => k_is)
    (case aRis_below => k_is)
    (case iRis_below => k_is)
    (case lRis_below => k_is)
    (case cRis_below => k_is)
    (case kRis_below => k_is)
    (case aRis_at_most => k_is)
    (case iRis_at_most => k_is)
    (case lRis_at_most => k_is)
    (case cRis_at_most => k_is)
    (case kRis_at_most => k_is)
    (case aReq => k_is)
    (case iReq => k_is)
    (case lReq => k_is)
    (case cReq => k_is)
    (case kReq => k_is)
    (case aRstr => k_is)
    (case iRstr => k_is)
    (case lRstr => k_is)
    (case cRstr => k_is)
    (case kRstr => k_is)
    (case aRrepr => k_is)
    (case iRrepr => k_is)
    (case lRrepr => k_is)
    (case cRrepr => k_is)
    (case kRrepr => k_is)
    (case atold_pair => k_is)
    (case ltold_pair => k_is)
    (case ctold_pair => k_is)
    (case ktold_pair => k_is)
    (case ais_number => k_is)
    (case lis_number => k_is)
    (case cis_number => k_is)
    (case kis_number => k_is)
    (case aratio_of => k_is)
    (case lratio_of => k_is)
    (case cratio_of => k_is)
    (case kratio_of => k_is)
    (case awant_number => k_is)
    (case lwant_number => k_is)
    (case cwant_number => k_is)
    (case kwant_number => k_is)
    (case atotal_of => k_is)
    (case ltotal_of => k_is)
    (case ctotal_of => k_is)
    (case ktotal_of => k_is)
    (case alaw_pot => k_is)
    (case llaw_pot => k_is)
    (case claw_pot => k_is)
    (case klaw_pot => k_is)
    (case alaw_draw => k_is)
    (case llaw_draw => k_is)
    (case claw_draw => k_is)
    (case klaw_draw => k_is)
    (case alaw_low => k_is)
    (case llaw_low => k_is)
    (case claw_low => k_is)
    (case klaw_low => k_is)
    (case alaw_number => k_is)
    (case llaw_number => k_is)
    (case claw_number => k_is)
    (case klaw_number => k_is)
    (case alaw_is => k_is)
    (case llaw_is => k_is)
    (case claw_is => k_is)
    (case klaw_is => k_is)
    (case alaw_pair_right => k_is)
    (case llaw_pair_right => k_is)
    (case claw_pair_right => k_is)
    (case klaw_pair_right => k_is)
    (case alaw_whole_right => k_is)
    (case llaw_whole_right => k_is)
    (case claw_whole_right => k_is)
    (case klaw_whole_right => k_is)
    (case alaw_right => k_is)
    (case llaw_right => k_is)
    (case claw_right => k_is)
    (case klaw_right => k_is)
    (case alaw => k_is)
    (case llaw => k_is)
    (case claw => k_is)
    (case klaw => k_is)
    (case pg => k_is)
    (case hd => k_is)
    (case po => k_is)
    (case sa => k_is)
    (case mk => k_is)
    (case kc => k_is)
    (case nT => k_is)
    (case nB => k_is)
    (case ca => k_is)
    (case cn => k_is)
    (case ct => k_is)
    (case cm => k_is)
    (case oi => kit_is)
    (case oo => kit_is)
    (case io => kit_is)
    (case ii => kit_is)
    (case ib => kit_is)
    (case kl => kit_is)
    (case kt => kit_is)
    (case sf => k_is)
    (case si => k_is)
    (case sr => k_is)
    (case fiadd => k_is)
    (case riadd => k_is)
    (case siadd => first | rfl | decide)
    (case fisub => k_is)
    (case risub => k_is)
    (case sisub => first | rfl | decide)
    (case fimul => k_is)
    (case rimul => k_is)
    (case simul => first | rfl | decide)
    (case ne => k_is)
    (case nfo => k_is)
    (case nfint => k_is)
    (case kqstr => kit_is)
    (case nfstr => k_is)
    (case kqlist => kit_is)
    (case nflist => k_is)
    (case kqtuple => kit_is)
    (case nftuple => k_is)
    (case kqdict => kit_is)
    (case nfdict => k_is)
    (case zisinstance => k_is)
    (case zint => k_is)
    (case zbool => k_is)
    (case zabs => k_is)
    (case zstr => k_is)
    (case zlist => k_is)
    (case ztuple => k_is)
    (case zlen => k_is)
    (case zmax => k_is)
    (case zmin => k_is)
    (case zdivmod => k_is)
    (case zrepr => k_is)
    (case zall => k_is)
    (case zrange => k_is)
    (case zzip => k_is)
    (case aP => k_is)
    (case aG => k_is)
end
