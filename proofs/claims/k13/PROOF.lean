import PyProof.Rows.All
import Wide.All
import OpenK.AllK
import Wide.FinOn
import HandS.ForMost
import HandS.Walk
import HandS.Conv
import HandS.Property
import HandS.ClsMeth
import HandS.MakeKw
import HandS.MakeKwOnly
import HandS.Wide
import HandS.WideBits
import HandS.Gcd
import HandS.FStr
import HandS.IsInst
import HandS.RaiseMore
import KE.KOpsOwn
import KE.KCallOwn
import PyProof.TwoTypes
import HandS.NoneIn
import HandS.Style
import PyProof.InstEq
import PyProof.Walk
import PyProof.WalkLemmas
import PyProof.ReprHeads
import HandS.Deep
import PyProof.ReprReads
import PyProof.ReprNest
import HandS.Ends
import HandS.EndBits
import PyProof.ReprUnder
import PyProof.ReprHeadsEmpty
import HandS.OwnEq
import PyProof.NeKinds
import KE.KMathGC
import HandS.TryOnly
import HandS.More
import HandS.TupLe
import KE.KEqNest
import KE.RegKIsAll
import PySem.Challenge.RW_straightened_k13_whole_lines_divided
section
set_option Elab.async false
set_option maxRecDepth 100000
open PySem PySem.W PyProof.Rows
set_option maxHeartbeats 0
open_top head13 for PySem.Challenge.rw_straightened_k13_whole_lines_divided
end
section
set_option Elab.async false
set_option linter.all false
set_option maxRecDepth 100000
set_option maxHeartbeats 2000000
/-! DBase: data without a heap (D), what a value denotes (Den), slots that hold data or own an object (Sl), judgements over these. -/
namespace Dn
open PySem PySem.Spec L2
inductive D where
  | non | bl (b : Bool) | int (i : Int) | str (x : Str) | adr (a : Addr) | ty (n : String)
  | lst (xs : List D) | tup (xs : List D) | lstK (xs : List D) | tupK (xs : List D) | obj (C : Addr) (fs : List (Str × D)) | dct (kvs : List (Key × D))
def Ex (H H' : Hp) : Prop := ∀ a o, H a = some o → H' a = some o
theorem Ex.refl (H : Hp) : Ex H H := fun _ _ h => h
theorem Ex.trans {H H1 H2 : Hp} (a : Ex H H1) (b : Ex H1 H2) : Ex H H2 := fun x o h => b x o (a x o h)
theorem Ex.new {H : Hp} {p : Addr} {o : HO} (h : H p = none) : Ex H (upd H p o) := fun a u e => by
  rw [upd_ne (ne_of_none e h)]
  exact e
theorem Ex.none {H H' : Hp} (e : Ex H H') {p : Addr} (h : H' p = Option.none) : H p = Option.none := by
  cases q : H p with
  | none => rfl
  | some o =>
    rw [e p o q] at h
    cases h
theorem Ex.upd2 {H H' : Hp} {p : Addr} {o : HO} (e : Ex H H') (h : H p = Option.none) : Ex (upd H p o) (upd H' p o) := fun a u q => by
  by_cases hp : a = p
  · subst hp
    rw [upd_same] at q ⊢
    exact q
  · rw [upd_ne hp] at q ⊢
    exact e a u q
theorem ex_rd {H H' : Hp} {a : Addr} {u : HO} (e : Ex H H') (h : Rd H a u) : Rd H' a u := by
  rcases h with h | ⟨o, h⟩
  · exact Or.inl (e a _ h)
  · exact Or.inr ⟨o, e a _ h⟩
theorem ex_l {K : PySem.W.Frag} {H H' : Hp} {a : Addr} {xs : List V} (e : Ex H H') (h : SqL K H a xs) : SqL K H' a xs := by
  rcases h with h | h
  · exact Or.inl (ex_rd e h)
  · exact Or.inr h
theorem ex_t {K : PySem.W.Frag} {H H' : Hp} {a : Addr} {xs : List V} (e : Ex H H') (h : SqT K H a xs) : SqT K H' a xs := by
  rcases h with h | h
  · exact Or.inl (ex_rd e h)
  · exact Or.inr h
/-! ### what a value denotes in a heap -/
mutual
inductive Den (K : PySem.W.Frag) (H : Hp) : V → D → Prop
  | non : Den K H .non .non
  | bl (b : Bool) : Den K H (.bl b) (.bl b)
  | int (i : Int) : Den K H (.int i) (.int i)
  | str (x : Str) : Den K H (.str x) (.str x)
  | adr (a : Addr) : Den K H (.ref a) (.adr a)
  | ty (n : String) : Den K H (.ty n) (.ty n)
  | lst {a : Addr} {vs : List V} {ds : List D} : H a = some (.lst vs) → Dens K H vs ds → Den K H (.ref a) (.lst ds)
  | tup {a : Addr} {vs : List V} {ds : List D} : H a = some (.tup vs) → Dens K H vs ds → Den K H (.ref a) (.tup ds)
  | lstK {a : Addr} {vs : List V} {ds : List D} : SqL K H a vs → Dens K H vs ds → Den K H (.ref a) (.lstK ds)
  | tupK {a : Addr} {vs : List V} {ds : List D} : SqT K H a vs → Dens K H vs ds → Den K H (.ref a) (.tupK ds)
  | obj {a C dx : Addr} {fs : List (Str × V)} {gs : List (Str × D)} : H a = some (.ins C dx fs) → DenF K H fs gs → Den K H (.ref a) (.obj C gs)
  | dct {a : Addr} {kvs : List (Key × V)} {ds : List (Key × D)} : H a = some (.dK kvs) → DenK K H kvs ds → Den K H (.ref a) (.dct ds)
inductive Dens (K : PySem.W.Frag) (H : Hp) : List V → List D → Prop
  | nil : Dens K H [] []
  | cons {v : V} {d : D} {vs : List V} {ds : List D} : Den K H v d → Dens K H vs ds → Dens K H (v :: vs) (d :: ds)
inductive DenF (K : PySem.W.Frag) (H : Hp) : List (Str × V) → List (Str × D) → Prop
  | nil : DenF K H [] []
  | cons {x : Str} {v : V} {d : D} {vs : List (Str × V)} {ds : List (Str × D)} : Den K H v d → DenF K H vs ds → DenF K H ((x, v) :: vs) ((x, d) :: ds)
inductive DenK (K : PySem.W.Frag) (H : Hp) : List (Key × V) → List (Key × D) → Prop
  | nil : DenK K H [] []
  | cons {x : Key} {v : V} {d : D} {vs : List (Key × V)} {ds : List (Key × D)} : Den K H v d → DenK K H vs ds → DenK K H ((x, v) :: vs) ((x, d) :: ds)
end
section
variable {K : PySem.W.Frag} {H H' : Hp}
theorem Den.mono (e : Ex H H') {v : V} {d : D} (h : Den K H v d) : Den K H' v d :=
  Den.rec (motive_1 := fun v d _ => Den K H' v d) (motive_2 := fun v d _ => Dens K H' v d) (motive_3 := fun v d _ => DenF K H' v d) (motive_4 := fun v d _ => DenK K H' v d)
    .non .bl .int .str .adr .ty (fun q _ r => .lst (e _ _ q) r) (fun q _ r => .tup (e _ _ q) r) (fun q _ r => .lstK (ex_l e q) r) (fun q _ r => .tupK (ex_t e q) r) (fun q _ r => .obj (e _ _ q) r) (fun q _ r => .dct (e _ _ q) r)
    .nil (fun _ _ a b => .cons a b) .nil (fun _ _ a b => .cons a b) .nil (fun _ _ a b => .cons a b) h
theorem Dens.mono (e : Ex H H') : ∀ {vs : List V} {ds : List D}, Dens K H vs ds → Dens K H' vs ds
  | _, _, .nil => .nil
  | _, _, .cons a b => .cons (a.mono e) (Dens.mono e b)
theorem DenF.mono (e : Ex H H') : ∀ {vs : List (Str × V)} {ds : List (Str × D)}, DenF K H vs ds → DenF K H' vs ds
  | _, _, .nil => .nil
  | _, _, .cons a b => .cons (a.mono e) (DenF.mono e b)
theorem DenK.mono (e : Ex H H') : ∀ {vs : List (Key × V)} {ds : List (Key × D)}, DenK K H vs ds → DenK K H' vs ds
  | _, _, .nil => .nil
  | _, _, .cons a b => .cons (a.mono e) (DenK.mono e b)
theorem Dens.length : ∀ {vs : List V} {ds : List D}, Dens K H vs ds → vs.length = ds.length
  | _, _, .nil => rfl
  | _, _, .cons _ b => congrArg (· + 1) (Dens.length b)
theorem DenF.length : ∀ {vs : List (Str × V)} {ds : List (Str × D)}, DenF K H vs ds → vs.length = ds.length
  | _, _, .nil => rfl
  | _, _, .cons _ b => congrArg (· + 1) (DenF.length b)
theorem DenK.length : ∀ {vs : List (Key × V)} {ds : List (Key × D)}, DenK K H vs ds → vs.length = ds.length
  | _, _, .nil => rfl
  | _, _, .cons _ b => congrArg (· + 1) (DenK.length b)
theorem Dens.get : ∀ {vs : List V} {ds : List D} {i : Nat} {d : D}, Dens K H vs ds → ds[i]? = some d → ∃ v, vs[i]? = some v ∧ Den K H v d
  | _, _, _, _, .nil, e => by simp at e
  | _, _, 0, _, .cons a _, e => by simp at e; subst e; exact ⟨_, rfl, a⟩
  | _, _, i + 1, d, .cons _ b, e => by
    obtain ⟨u, h1, h2⟩ := Dens.get (i := i) (d := d) b (by simpa using e)
    exact ⟨u, by simpa using h1, h2⟩
theorem Dens.get' : ∀ {vs : List V} {ds : List D} {i : Nat} {v : V}, Dens K H vs ds → vs[i]? = some v → ∃ d, ds[i]? = some d ∧ Den K H v d
  | _, _, _, _, .nil, e => by simp at e
  | _, _, 0, _, .cons a _, e => by simp at e; subst e; exact ⟨_, rfl, a⟩
  | _, _, i + 1, d, .cons _ b, e => by
    obtain ⟨u, h1, h2⟩ := Dens.get' (i := i) (v := d) b (by simpa using e)
    exact ⟨u, by simpa using h1, h2⟩
theorem Dens.append : ∀ {vs ws : List V} {ds es : List D}, Dens K H vs ds → Dens K H ws es → Dens K H (vs ++ ws) (ds ++ es)
  | _, _, _, _, .nil, q => q
  | _, _, _, _, .cons a b, q => .cons a (Dens.append b q)
theorem Dens.set : ∀ {vs : List V} {ds : List D} {v : V} {d : D} (i : Nat), Dens K H vs ds → Den K H v d → Dens K H (vs.set i v) (ds.set i d)
  | _, _, _, _, _, .nil, _ => .nil
  | _, _, _, _, 0, .cons _ b, q => .cons q b
  | _, _, _, _, i + 1, .cons a b, q => .cons a (Dens.set i b q)
theorem Dens.take : ∀ {vs : List V} {ds : List D} (i : Nat), Dens K H vs ds → Dens K H (vs.take i) (ds.take i)
  | _, _, 0, _ => .nil
  | _, _, _ + 1, .nil => .nil
  | _, _, i + 1, .cons a b => .cons a (Dens.take i b)
theorem Dens.drop : ∀ {vs : List V} {ds : List D} (i : Nat), Dens K H vs ds → Dens K H (vs.drop i) (ds.drop i)
  | _, _, 0, h => h
  | _, _, _ + 1, .nil => .nil
  | _, _, i + 1, .cons _ b => Dens.drop i b
theorem Dens.rev : ∀ {vs : List V} {ds : List D}, Dens K H vs ds → Dens K H vs.reverse ds.reverse
  | _, _, .nil => .nil
  | _, _, .cons a b => by
    rw [List.reverse_cons, List.reverse_cons]
    exact Dens.append (Dens.rev b) (.cons a .nil)
theorem DenF.look : ∀ {vs : List (Str × V)} {ds : List (Str × D)} {x : Str} {d : D}, DenF K H vs ds → ds.lookup x = some d → ∃ v, vs.lookup x = some v ∧ Den K H v d
  | _, _, _, _, .nil, e => by simp at e
  | _, _, y, d, @DenF.cons _ _ x v d0 vs ds a b, e => by
    rw [List.lookup_cons] at e ⊢
    cases h : (y == x) with
    | true =>
      rw [h] at e
      cases e
      exact ⟨v, rfl, a⟩
    | false =>
      rw [h] at e
      exact DenF.look b e
theorem DenF.nolook : ∀ {vs : List (Str × V)} {ds : List (Str × D)} {x : Str}, DenF K H vs ds → ds.lookup x = none → vs.lookup x = none
  | _, _, _, .nil, _ => rfl
  | _, _, y, @DenF.cons _ _ x v d0 vs ds a b, e => by
    rw [List.lookup_cons] at e ⊢
    cases h : (y == x) with
    | true =>
      rw [h] at e
      cases e
    | false =>
      rw [h] at e
      exact DenF.nolook b e
theorem Den.seqL {v : V} {ds : List D} (h : Den K H v (.lst ds) ∨ Den K H v (.lstK ds)) : ∃ a vs, v = .ref a ∧ SqL K H a vs ∧ Dens K H vs ds := by
  rcases h with h | h
  · cases h with | lst q r => exact ⟨_, _, rfl, .inl (.inl q), r⟩
  · cases h with | lstK q r => exact ⟨_, _, rfl, q, r⟩
theorem Den.seqT {v : V} {ds : List D} (h : Den K H v (.tup ds) ∨ Den K H v (.tupK ds)) : ∃ a vs, v = .ref a ∧ SqT K H a vs ∧ Dens K H vs ds := by
  rcases h with h | h
  · cases h with | tup q r => exact ⟨_, _, rfl, .inl (.inl q), r⟩
  · cases h with | tupK q r => exact ⟨_, _, rfl, q, r⟩
def putD (f : Str) (v : D) : List (Str × D) → List (Str × D)
  | [] => [(f, v)]
  | (g, x) :: r => if g = f then (g, v) :: r else (g, x) :: putD f v r
theorem DenF.put {f : Str} {v : V} {d : D} (h : Den K H v d) : ∀ {vs : List (Str × V)} {ds : List (Str × D)}, DenF K H vs ds → DenF K H (putF f v vs) (putD f d ds)
  | _, _, .nil => .cons h .nil
  | _, _, @DenF.cons _ _ x v0 d0 vs ds a b => by
    show DenF K H (if x = f then (x, v) :: vs else (x, v0) :: putF f v vs) (if x = f then (x, d) :: ds else (x, d0) :: putD f d ds)
    by_cases q : x = f
    · rw [if_pos q, if_pos q]
      exact .cons h b
    · rw [if_neg q, if_neg q]
      exact .cons a (DenF.put h b)
end
/-! ### slots and results: data, or an object that is owned -/
inductive Sl where
  | non | val (d : D) | own (d : D)
abbrev Rho := List Sl
inductive Res where
  | val (d : D) | own (d : D)
abbrev Res.sl : Res → Sl
  | .val d => .val d
  | .own d => .own d
/-- at a stands an object whose content denotes d, a itself is not of the still heap -/
def OwnAt (K : PySem.W.Frag) (Hs H : Hp) (a : Addr) : D → Prop
  | .lst ds => ∃ vs, H a = some (.lst vs) ∧ Dens K Hs vs ds
  | .obj C gs => ∃ dx fs, H a = some (.ins C dx fs) ∧ DenF K Hs fs gs
  | .dct ds => ∃ kvs, H a = some (.dK kvs) ∧ DenK K Hs kvs ds
  | _ => False
section
variable {K : PySem.W.Frag} {Hs Hs' H H' : Hp} {a : Addr} {d : D}
theorem OwnAt.mono (h : OwnAt K Hs H a d) (e : Ex Hs Hs') (q : ∀ o, H a = some o → H' a = some o) : OwnAt K Hs' H' a d := by
  cases d with
  | lst ds => obtain ⟨vs, h1, h2⟩ := h; exact ⟨vs, q _ h1, h2.mono e⟩
  | obj C gs => obtain ⟨dx, fs, h1, h2⟩ := h; exact ⟨dx, fs, q _ h1, h2.mono e⟩
  | dct ds => obtain ⟨vs, h1, h2⟩ := h; exact ⟨vs, q _ h1, h2.mono e⟩
  | _ => exact False.elim h
theorem OwnAt.there (h : OwnAt K Hs H a d) : ∃ o, H a = some o := by
  cases d with
  | lst ds => obtain ⟨vs, h1, h2⟩ := h; exact ⟨_, h1⟩
  | obj C gs => obtain ⟨dx, fs, h1, h2⟩ := h; exact ⟨_, h1⟩
  | dct ds => obtain ⟨vs, h1, h2⟩ := h; exact ⟨_, h1⟩
  | _ => exact False.elim h
/-- what is owned may be stilled -/
theorem OwnAt.still (h : OwnAt K Hs H a d) (n : Hs a = none) (e : Ex Hs H) : ∃ o, H a = some o ∧ Ex Hs (upd Hs a o) ∧ Ex (upd Hs a o) H ∧ Den K (upd Hs a o) (.ref a) d := by
  have up : ∀ o, H a = some o → Ex (upd Hs a o) H := fun o q b u z => by
    by_cases hb : b = a
    · subst hb
      rw [upd_same] at z
      cases z
      exact q
    · rw [upd_ne hb] at z
      exact e b u z
  cases d with
  | lst ds => obtain ⟨vs, h1, h2⟩ := h; exact ⟨_, h1, Ex.new n, up _ h1, .lst upd_same (h2.mono (Ex.new n))⟩
  | obj C gs => obtain ⟨dx, fs, h1, h2⟩ := h; exact ⟨_, h1, Ex.new n, up _ h1, .obj upd_same (h2.mono (Ex.new n))⟩
  | dct ds => obtain ⟨vs, h1, h2⟩ := h; exact ⟨_, h1, Ex.new n, up _ h1, .dct upd_same (h2.mono (Ex.new n))⟩
  | _ => exact False.elim h
end
/-- Hs' is Hs and more, none of it of the frame -/
structure ExF (Hf Hs Hs' : Hp) : Prop where
  ex : Ex Hs Hs'
  nw : ∀ a o, Hf a = some o → Hs a = none → Hs' a = none
theorem ExF.refl {Hf Hs : Hp} : ExF Hf Hs Hs := ⟨Ex.refl _, fun _ _ _ h => h⟩
theorem ExF.trans {Hf H1 H2 H3 : Hp} (a : ExF Hf H1 H2) (b : ExF Hf H2 H3) : ExF Hf H1 H3 := ⟨a.ex.trans b.ex, fun x o h n => b.nw x o h (a.nw x o h n)⟩
theorem ExF.less {Hf Hg H1 H2 : Hp} (a : ExF Hg H1 H2) (e : Ex Hf Hg) : ExF Hf H1 H2 := ⟨a.ex, fun x o h n => a.nw x o (e x o h) n⟩
structure EnvOk (K : PySem.W.Frag) (io : Option Addr) (ρ : Rho) (σ : L2.St) (Hf Hs H : Hp) : Prop where
  fr : Ex Hf H
  st : Ex Hs H
  len : ρ.length = σ.length
  val : ∀ (i : Nat) (d : D), ρ[i]? = some (.val d) → ∃ v, σ[i]? = some (some v) ∧ Den K Hs v d
  own : ∀ (i : Nat) (d : D), ρ[i]? = some (.own d) → ∃ a, σ[i]? = some (some (.ref a)) ∧ OwnAt K Hs H a d ∧ Hs a = none ∧ Hf a = none
  sep : ∀ (i j : Nat) (d e : D) (a : Addr), ρ[i]? = some (.own d) → ρ[j]? = some (.own e) → σ[i]? = some (some (.ref a)) → σ[j]? = some (some (.ref a)) → i = j
  io : ∀ a, io = some a → σ[0]? = some (some (.ref a))
/-- no slot owns what stands at p -/
def NoOwn (ρ : Rho) (σ : L2.St) (p : Addr) : Prop := ∀ (i : Nat) (e : D), ρ[i]? = some (.own e) → σ[i]? ≠ some (some (.ref p))
def ResOk (K : PySem.W.Frag) (ρ : Rho) (σ : L2.St) (Hf Hs H : Hp) (v : V) : Res → Prop
  | .val d => Den K Hs v d
  | .own d => ∃ p, v = .ref p ∧ OwnAt K Hs H p d ∧ Hs p = none ∧ Hf p = none ∧ NoOwn ρ σ p
section
variable {K : PySem.W.Frag} {io : Option Addr} {ρ : Rho} {σ : L2.St} {Hf Hs H Hs' H' Hg : Hp}
theorem EnvOk.noOwn (E : EnvOk K io ρ σ Hf Hs H) {p : Addr} (n : H p = none) : NoOwn ρ σ p := fun i e h q => by
  obtain ⟨a, h1, h2, _⟩ := E.own i e h
  rw [h1] at q
  cases q
  obtain ⟨o, z⟩ := h2.there
  rw [n] at z
  cases z
/-- the heap has grown, nothing that stood has changed -/
theorem EnvOk.grow (E : EnvOk K io ρ σ Hf Hs H) (e : Ex H H') (s : Ex Hs Hs') (t : Ex Hs' H') (n : ∀ a o, H a = some o → Hs a = none → Hs' a = none) : EnvOk K io ρ σ Hf Hs' H' :=
  ⟨E.fr.trans e, t, E.len, fun i d h => by
    obtain ⟨v, h1, h2⟩ := E.val i d h
    exact ⟨v, h1, h2.mono s⟩, fun i d h => by
    obtain ⟨a, h1, h2, h3, h4⟩ := E.own i d h
    obtain ⟨o, z⟩ := h2.there
    exact ⟨a, h1, h2.mono s fun o => e a o, n a o z h3, h4⟩, E.sep, E.io⟩
theorem EnvOk.growF (E : EnvOk K io ρ σ Hf Hs H) (s : Ex Hs Hs') (n : ∀ a o, H a = some o → Hs a = none → Hs' a = none) : ExF Hf Hs Hs' :=
  ⟨s, fun a o h z => n a o (E.fr a o h) z⟩
/-- a smaller frame -/
theorem EnvOk.less (E : EnvOk K io ρ σ Hg Hs H) (e : Ex Hf Hg) : EnvOk K io ρ σ Hf Hs H :=
  ⟨e.trans E.fr, E.st, E.len, E.val, fun i d h => by
    obtain ⟨a, h1, h2, h3, h4⟩ := E.own i d h
    exact ⟨a, h1, h2, h3, e.none h4⟩, E.sep, E.io⟩
/-- the greatest frame: all but what the slots own -/
noncomputable def mxf (ρ : Rho) (σ : L2.St) (H : Hp) : Hp := fun a => open Classical in if NoOwn ρ σ a then H a else none
theorem mxf_some {a : Addr} {o : HO} (h : mxf ρ σ H a = some o) : H a = some o ∧ NoOwn ρ σ a := by
  unfold mxf at h
  by_cases n : NoOwn ρ σ a
  · rw [if_pos n] at h; exact ⟨h, n⟩
  · rw [if_neg n] at h; cases h
theorem mxf_of {a : Addr} {o : HO} (h : H a = some o) (n : NoOwn ρ σ a) : mxf ρ σ H a = some o := by
  unfold mxf
  rw [if_pos n]
  exact h
theorem mxf_own {i : Nat} {d : D} {a : Addr} (h : ρ[i]? = some (.own d)) (q : σ[i]? = some (some (.ref a))) : mxf ρ σ H a = none := by
  unfold mxf
  rw [if_neg fun n => n i d h q]
theorem EnvOk.more (E : EnvOk K io ρ σ Hf Hs H) : EnvOk K io ρ σ (mxf ρ σ H) Hs H ∧ Ex Hf (mxf ρ σ H) ∧ Ex Hs (mxf ρ σ H) := by
  have no : ∀ (a : Addr) (X : Hp), (∀ (i : Nat) (d : D), ρ[i]? = some (Sl.own d) → σ[i]? = some (some (V.ref a)) → X a = none) → (∃ o, X a = some o) → NoOwn ρ σ a := fun a X h ⟨o, z⟩ i d q r => by
    rw [h i d q r] at z
    cases z
  refine ⟨⟨fun a o h => (mxf_some (ρ := ρ) (σ := σ) (H := H) h).1, E.st, E.len, E.val, fun i d h => ?_, E.sep, E.io⟩, fun a o h => mxf_of (E.fr a o h) (no a Hf (fun i d q r => ?_) ⟨o, h⟩), fun a o h => mxf_of (E.st a o h) (no a Hs (fun i d q r => ?_) ⟨o, h⟩)⟩
  · obtain ⟨a, h1, h2, h3, h4⟩ := E.own i d h
    exact ⟨a, h1, h2, h3, mxf_own h h1⟩
  · obtain ⟨b, h1, h2, h3, h4⟩ := E.own i d q
    rw [h1] at r
    cases r
    exact h4
  · obtain ⟨b, h1, h2, h3, h4⟩ := E.own i d q
    rw [h1] at r
    cases r
    exact h3
theorem get_set_ne {α : Type} {l : List α} {i j : Nat} {x : α} (h : i ≠ j) : (l.set i x)[j]? = l[j]? := List.getElem?_set_ne h
/-- a slot is stored -/
theorem EnvOk.setv (E : EnvOk K io ρ σ Hf Hs H) {i : Nat} {v : V} {d : D} (hd : Den K Hs v d) (hio : i ≠ 0 ∨ io = none) : EnvOk K io (ρ.set i (.val d)) (σ.set i (some v)) Hf Hs H := by
  have ne : ∀ j (d' : D) , (ρ.set i (.val d))[j]? = some (.own d') → i ≠ j := fun j d' h z => by
    subst z
    by_cases hl : i < ρ.length
    · rw [List.getElem?_set_self hl] at h
      cases h
    · rw [List.getElem?_eq_none (by rw [List.length_set]; omega)] at h
      cases h
  refine ⟨E.fr, E.st, by rw [List.length_set, List.length_set]; exact E.len, fun j d' h => ?_, fun j d' h => ?_, fun j k d' e a h1 h2 h3 h4 => ?_, fun a h => ?_⟩
  · by_cases hj : i = j
    · subst hj
      by_cases hl : i < ρ.length
      · rw [List.getElem?_set_self hl] at h
        cases h
        exact ⟨v, List.getElem?_set_self (by rw [← E.len]; exact hl), hd⟩
      · rw [List.getElem?_eq_none (by rw [List.length_set]; omega)] at h
        cases h
    · rw [get_set_ne hj] at h ⊢
      exact E.val j d' h
  · have hj := ne j d' h
    rw [get_set_ne hj] at h ⊢
    exact E.own j d' h
  · have hj := ne j d' h1
    have hk := ne k e h2
    rw [get_set_ne hj] at h1 h3
    rw [get_set_ne hk] at h2 h4
    exact E.sep j k d' e a h1 h2 h3 h4
  · rcases hio with z | z
    · rw [get_set_ne z]
      exact E.io a h
    · rw [z] at h
      cases h
theorem EnvOk.seto (E : EnvOk K io ρ σ Hf Hs H) {i : Nat} {p : Addr} {d : D} (h1 : OwnAt K Hs H p d) (h2 : Hs p = none) (h3 : Hf p = none) (h4 : NoOwn ρ σ p) (hio : i ≠ 0 ∨ io = none) :
    EnvOk K io (ρ.set i (.own d)) (σ.set i (some (.ref p))) Hf Hs H := by
  have self : ∀ {x : Sl} {y : Option V}, (ρ.set i x)[i]? = some x ∧ (σ.set i y)[i]? = some y ∨ (ρ.set i x)[i]? = none := fun {x y} => by
    by_cases hl : i < ρ.length
    · exact .inl ⟨List.getElem?_set_self hl, List.getElem?_set_self (by rw [← E.len]; exact hl)⟩
    · exact .inr (List.getElem?_eq_none (by rw [List.length_set]; omega))
  refine ⟨E.fr, E.st, by rw [List.length_set, List.length_set]; exact E.len, fun j d' h => ?_, fun j d' h => ?_, fun j k d' e a q1 q2 q3 q4 => ?_, fun a h => ?_⟩
  · by_cases hj : i = j
    · subst hj
      rcases self (x := .own d) (y := some (V.ref p)) with ⟨z, _⟩ | z
      · rw [z] at h; cases h
      · rw [z] at h; cases h
    · rw [get_set_ne hj] at h ⊢
      exact E.val j d' h
  · by_cases hj : i = j
    · subst hj
      rcases self (x := .own d) (y := some (V.ref p)) with ⟨z, z2⟩ | z
      · rw [z] at h; cases h
        exact ⟨p, z2, h1, h2, h3⟩
      · rw [z] at h; cases h
    · rw [get_set_ne hj] at h ⊢
      exact E.own j d' h
  · by_cases hj : i = j
    · by_cases hk : i = k
      · rw [← hj, ← hk]
      · subst hj
        rcases self (x := .own d) (y := some (V.ref p)) with ⟨z, z2⟩ | z
        · rw [z2] at q3; cases q3
          rw [get_set_ne hk] at q2 q4
          exact absurd q4 (h4 k e q2)
        · rw [z] at q1; cases q1
    · by_cases hk : i = k
      · subst hk
        rcases self (x := .own d) (y := some (V.ref p)) with ⟨z, z2⟩ | z
        · rw [z2] at q4; cases q4
          rw [get_set_ne hj] at q1 q3
          exact absurd q3 (h4 j d' q1)
        · rw [z] at q2; cases q2
      · rw [get_set_ne hj] at q1 q3
        rw [get_set_ne hk] at q2 q4
        exact E.sep j k d' e a q1 q2 q3 q4
  · rcases hio with z | z
    · rw [get_set_ne z]
      exact E.io a h
    · rw [z] at h
      cases h
theorem EnvOk.setr (E : EnvOk K io ρ σ Hf Hs H) {i : Nat} {v : V} {r : Res} (h : ResOk K ρ σ Hf Hs H v r) (hio : i ≠ 0 ∨ io = none) : EnvOk K io (ρ.set i r.sl) (σ.set i (some v)) Hf Hs H := by
  cases r with
  | val d => exact E.setv h hio
  | own d =>
    obtain ⟨p, rfl, h1, h2, h3, h4⟩ := h
    exact E.seto h1 h2 h3 h4 hio
/-- a slot is forgotten (the value stands still) -/
theorem EnvOk.drop (E : EnvOk K io ρ σ Hf Hs H) (i : Nat) : EnvOk K io (ρ.set i .non) σ Hf Hs H := by
  have ne : ∀ j (d' : Sl), (ρ.set i .non)[j]? = some d' → d' ≠ .non → i ≠ j := fun j d' h q z => by
    subst z
    by_cases hl : i < ρ.length
    · rw [List.getElem?_set_self hl] at h
      cases h
      exact q rfl
    · rw [List.getElem?_eq_none (by rw [List.length_set]; omega)] at h
      cases h
  refine ⟨E.fr, E.st, by rw [List.length_set]; exact E.len, fun j d' h => ?_, fun j d' h => ?_, fun j k d' e a h1 h2 h3 h4 => ?_, E.io⟩
  · have hj := ne j _ h (by intro z; cases z)
    rw [get_set_ne hj] at h
    exact E.val j d' h
  · have hj := ne j _ h (by intro z; cases z)
    rw [get_set_ne hj] at h
    exact E.own j d' h
  · have hj := ne j _ h1 (by intro z; cases z)
    have hk := ne k _ h2 (by intro z; cases z)
    rw [get_set_ne hj] at h1
    rw [get_set_ne hk] at h2
    exact E.sep j k d' e a h1 h2 h3 h4
/-- what is owned is changed -/
theorem EnvOk.change (E : EnvOk K io ρ σ Hf Hs H) {i : Nat} {a : Addr} {d0 d : D} {o : HO} (h0 : ρ[i]? = some (.own d0)) (ha : σ[i]? = some (some (.ref a))) (h : OwnAt K Hs (upd H a o) a d) : EnvOk K io (ρ.set i (.own d)) σ Hf Hs (upd H a o) := by
  obtain ⟨b, h1, h2, h3, h4⟩ := E.own i d0 h0
  rw [ha] at h1
  cases h1
  have hl : i < ρ.length := (List.getElem?_eq_some_iff.mp h0).1
  have out : ∀ (X : Hp), X a = none → Ex X H → Ex X (upd H a o) := fun X n e b u z => by
    rw [upd_ne (ne_of_none z n)]
    exact e b u z
  refine ⟨out _ h4 E.fr, out _ h3 E.st, by rw [List.length_set]; exact E.len, fun j d' q => ?_, fun j d' q => ?_, fun j k d' e b q1 q2 q3 q4 => ?_, E.io⟩
  · by_cases hj : i = j
    · subst hj
      rw [List.getElem?_set_self hl] at q
      cases q
    · rw [get_set_ne hj] at q
      exact E.val j d' q
  · by_cases hj : i = j
    · subst hj
      rw [List.getElem?_set_self hl] at q
      cases q
      exact ⟨a, ha, h, h3, h4⟩
    · rw [get_set_ne hj] at q
      obtain ⟨b, g1, g2, g3, g4⟩ := E.own j d' q
      have nb : b ≠ a := fun z => by
        subst z
        exact hj (E.sep i j d0 d' b h0 q ha g1)
      exact ⟨b, g1, g2.mono (Ex.refl _) fun o z => by rw [upd_ne nb]; exact z, g3, g4⟩
  · have back : ∀ (m : Nat) (dd : D), (ρ.set i (Sl.own d))[m]? = some (Sl.own dd) → ∃ d1, ρ[m]? = some (Sl.own d1) := fun m dd q => by
      by_cases hm : i = m
      · subst hm; exact ⟨d0, h0⟩
      · rw [get_set_ne hm] at q; exact ⟨dd, q⟩
    obtain ⟨d1, z1⟩ := back j d' q1
    obtain ⟨d2, z2⟩ := back k e q2
    exact E.sep j k d1 d2 b z1 z2 q3 q4
/-- an owned slot is stilled -/
theorem EnvOk.still (E : EnvOk K io ρ σ Hf Hs H) {i : Nat} {d : D} (h0 : ρ[i]? = some (.own d)) : ∃ Hs', ExF Hf Hs Hs' ∧ EnvOk K io (ρ.set i (.val d)) σ Hf Hs' H := by
  obtain ⟨a, h1, h2, h3, h4⟩ := E.own i d h0
  obtain ⟨o, g1, g2, g3, g4⟩ := h2.still h3 E.st
  have hl : i < ρ.length := (List.getElem?_eq_some_iff.mp h0).1
  refine ⟨upd Hs a o, ⟨g2, fun b u q n => ?_⟩, ⟨E.fr, g3, by rw [List.length_set]; exact E.len, fun j d' q => ?_, fun j d' q => ?_, fun j k d' e b q1 q2 q3 q4 => ?_, E.io⟩⟩
  · rw [upd_ne (ne_of_none q h4)]
    exact n
  · by_cases hj : i = j
    · subst hj
      rw [List.getElem?_set_self hl] at q
      cases q
      exact ⟨_, h1, g4⟩
    · rw [get_set_ne hj] at q
      obtain ⟨v, z1, z2⟩ := E.val j d' q
      exact ⟨v, z1, z2.mono g2⟩
  · by_cases hj : i = j
    · subst hj
      rw [List.getElem?_set_self hl] at q
      cases q
    · rw [get_set_ne hj] at q
      obtain ⟨b, z1, z2, z3, z4⟩ := E.own j d' q
      have nb : b ≠ a := fun z => by
        subst z
        exact hj (E.sep i j d d' b h0 q h1 z1)
      exact ⟨b, z1, z2.mono g2 fun _ z => z, by rw [upd_ne nb]; exact z3, z4⟩
  · have back : ∀ (m : Nat) (dd : D), (ρ.set i (Sl.val d))[m]? = some (Sl.own dd) → ρ[m]? = some (Sl.own dd) := fun m dd q => by
      by_cases hm : i = m
      · subst hm
        rw [List.getElem?_set_self hl] at q
        cases q
      · rw [get_set_ne hm] at q; exact q
    exact E.sep j k d' e b (back _ _ q1) (back _ _ q2) q3 q4
/-- a result that is owned is stilled -/
theorem ResOk.still (E : EnvOk K io ρ σ Hf Hs H) {v : V} {d : D} (h : ResOk K ρ σ Hf Hs H v (.own d)) : ∃ Hs', ExF Hf Hs Hs' ∧ EnvOk K io ρ σ Hf Hs' H ∧ Den K Hs' v d := by
  obtain ⟨p, rfl, h1, h2, h3, h4⟩ := h
  obtain ⟨o, g1, g2, g3, g4⟩ := h1.still h2 E.st
  refine ⟨upd Hs p o, ⟨g2, fun b u q n => ?_⟩, ⟨E.fr, g3, E.len, fun j d' q => ?_, fun j d' q => ?_, E.sep, E.io⟩, g4⟩
  · rw [upd_ne (ne_of_none q h3)]
    exact n
  · obtain ⟨v, z1, z2⟩ := E.val j d' q
    exact ⟨v, z1, z2.mono g2⟩
  · obtain ⟨b, z1, z2, z3, z4⟩ := E.own j d' q
    have nb : b ≠ p := fun z => h4 j d' q (z ▸ z1)
    exact ⟨b, z1, z2.mono g2 fun _ z => z, by rw [upd_ne nb]; exact z3, z4⟩
end
/-! ### the judgements: an expression, a list of them, a test, a statement -/
def rdE (K : PySem.W.Frag) (ρ : Rho) (r : Res) (ρ' : Rho) : TE := fun σ H Q => ∃ io Hf Hs, EnvOk K io ρ σ Hf Hs H ∧
  ∀ v Hs' H', EnvOk K io ρ' σ Hf Hs' H' → ExF Hf Hs Hs' → ResOk K ρ' σ Hf Hs' H' v r → Q v H'
def rdA (K : PySem.W.Frag) (ρ : Rho) (ds : List D) (ρ' : Rho) : TA := fun σ H Q => ∃ io Hf Hs, EnvOk K io ρ σ Hf Hs H ∧
  ∀ vs Hs' H', EnvOk K io ρ' σ Hf Hs' H' → ExF Hf Hs Hs' → Dens K Hs' vs ds → Q vs H'
def rdT (K : PySem.W.Frag) (ρ : Rho) (b : Bool) (ρ' : Rho) : TT := fun σ H Q => ∃ io Hf Hs, EnvOk K io ρ σ Hf Hs H ∧
  ∀ Hs' H', EnvOk K io ρ' σ Hf Hs' H' → ExF Hf Hs Hs' → Q b H'
def PD (X : Cx) (e : Expr) (ρ : Rho) (r : Res) (ρ' : Rho) : Prop := PE X e (rdE X.K ρ r ρ')
def PAD (X : Cx) (es : List Expr) (ρ : Rho) (ds : List D) (ρ' : Rho) : Prop := PA X es (rdA X.K ρ ds ρ')
def PTD (X : Cx) (e : Expr) (ρ : Rho) (b : Bool) (ρ' : Rho) : Prop := PT X e (rdT X.K ρ b ρ')
/-- what follows a statement -/
structure Kn where
  nx : Rho → Prop
  rt : Res → Rho → Prop
  bk : Rho → Prop := fun _ => False
  ct : Rho → Prop := fun _ => False
structure KnOk (K : PySem.W.Frag) (io : Option Addr) (Hf Hs : Hp) (k : Kn) (Z : Ends) : Prop where
  nx : ∀ ρ' σ' Hs' H', k.nx ρ' → EnvOk K io ρ' σ' Hf Hs' H' → ExF Hf Hs Hs' → Z.nx σ' H'
  rt : ∀ r ρ' v σ' Hs' H', k.rt r ρ' → EnvOk K io ρ' σ' Hf Hs' H' → ExF Hf Hs Hs' → ResOk K ρ' σ' Hf Hs' H' v r → Z.rt v H'
  bk : ∀ ρ' σ' Hs' H', k.bk ρ' → EnvOk K io ρ' σ' Hf Hs' H' → ExF Hf Hs Hs' → Z.bk σ' H'
  ct : ∀ ρ' σ' Hs' H', k.ct ρ' → EnvOk K io ρ' σ' Hf Hs' H' → ExF Hf Hs Hs' → Z.ct σ' H'
theorem KnOk.later {K : PySem.W.Frag} {io : Option Addr} {Hf Hs Hs' : Hp} {k : Kn} {Z : Ends} (h : KnOk K io Hf Hs k Z) (e : ExF Hf Hs Hs') : KnOk K io Hf Hs' k Z :=
  ⟨fun ρ' σ' H1 H2 q E f => h.nx ρ' σ' H1 H2 q E (e.trans f), fun r ρ' v σ' H1 H2 q E f z => h.rt r ρ' v σ' H1 H2 q E (e.trans f) z, fun ρ' σ' H1 H2 q E f => h.bk ρ' σ' H1 H2 q E (e.trans f), fun ρ' σ' H1 H2 q E f => h.ct ρ' σ' H1 H2 q E (e.trans f)⟩
def rdS (K : PySem.W.Frag) (b : Bool) (ρ : Rho) (k : Kn) : TS := fun Z σ H => ∃ io Hf Hs, (b = false → io = none) ∧ EnvOk K io ρ σ Hf Hs H ∧ KnOk K io Hf Hs k Z
def PSD (X : Cx) (b : Bool) (ss : List Stmt) (ρ : Rho) (k : Kn) : Prop := PSs X ss (rdS X.K b ρ k)
def PS1 (X : Cx) (b : Bool) (st : Stmt) (ρ : Rho) (k : Kn) : Prop := PS X st (rdS X.K b ρ k)
section
variable {X : Cx} {e : Expr} {es : List Expr} {t t' : TE} {ta ta' : TA} {tt tt' : TT} {ts ts' : TS} {st : Stmt} {ss : List Stmt}
theorem pe_imp (h : PE X e t) (i : ∀ σ H Q, t' σ H Q → t σ H Q) : PE X e t' := ⟨fun pins s σ H Q I q => h.run pins s σ H Q I (i σ H Q q)⟩
theorem pa_imp (h : PA X es ta) (i : ∀ σ H Q, ta' σ H Q → ta σ H Q) : PA X es ta' := ⟨fun pos pins s σ H Q I q => h.run pos pins s σ H Q I (i σ H Q q)⟩
theorem pt_imp (h : PT X e tt) (i : ∀ σ H Q, tt' σ H Q → tt σ H Q) : PT X e tt' := ⟨fun pins s σ H Q I q => h.run pins s σ H Q I (i σ H Q q)⟩
theorem ps_imp (h : PS X st ts) (i : ∀ Z σ H, ts' Z σ H → ts Z σ H) : PS X st ts' := ⟨fun pins s σ H Z I q => h.run pins s σ H Z I (i Z σ H q)⟩
theorem pss_imp (h : PSs X ss ts) (i : ∀ Z σ H, ts' Z σ H → ts Z σ H) : PSs X ss ts' := ⟨fun pins s σ H Z I q => h.run pins s σ H Z I (i Z σ H q)⟩
theorem pss_any {α : Type} {tf : α → TS} (h : ∀ a, PSs X ss (tf a)) : PSs X ss (fun Z σ H => ∃ a, tf a Z σ H) := ⟨fun pins s σ H Z I ⟨a, q⟩ => (h a).run pins s σ H Z I q⟩
theorem pe_any {α : Type} {tf : α → TE} (h : ∀ a, PE X e (tf a)) : PE X e (fun σ H Q => ∃ a, tf a σ H Q) := ⟨fun pins s σ H Q I ⟨a, q⟩ => (h a).run pins s σ H Q I q⟩
end
end Dn
end
section
set_option Elab.async false
set_option linter.all false
set_option maxRecDepth 100000
set_option maxHeartbeats 2000000
/-! DRule: rules for expressions and statements over data. -/
namespace Dn
open PySem PySem.Spec L2
/-! ### growth -/
structure Gr (H H' Hs Hs' : Hp) : Prop where
  ex : Ex H H'
  st : Ex Hs' H'
  s : Ex Hs Hs'
  nw : ∀ a o, H a = some o → Hs a = none → Hs' a = none
theorem Gr.refl {H Hs : Hp} (e : Ex Hs H) : Gr H H Hs Hs := ⟨Ex.refl _, e, Ex.refl _, fun _ _ _ h => h⟩
theorem Gr.new {H Hs : Hp} {p : Addr} {o : HO} (e : Ex Hs H) (n : H p = none) : Gr H (upd H p o) Hs (upd Hs p o) :=
  ⟨Ex.new n, e.upd2 (e.none n), Ex.new (e.none n), fun a u h z => by rw [upd_ne (ne_of_none h n)]; exact z⟩
theorem Gr.newo {H Hs : Hp} {p : Addr} {o : HO} (e : Ex Hs H) (n : H p = none) : Gr H (upd H p o) Hs Hs :=
  ⟨Ex.new n, e.trans (Ex.new n), Ex.refl _, fun _ _ _ z => z⟩
theorem Gr.trans {H H1 H2 Hs Hs1 Hs2 : Hp} (a : Gr H H1 Hs Hs1) (b : Gr H1 H2 Hs1 Hs2) : Gr H H2 Hs Hs2 :=
  ⟨a.ex.trans b.ex, b.st, a.s.trans b.s, fun x o h z => b.nw x o (a.ex x o h) (a.nw x o h z)⟩
section
variable {K : PySem.W.Frag} {io : Option Addr} {ρ : Rho} {σ : L2.St} {Hf Hs H Hs' H' : Hp}
theorem EnvOk.gr (E : EnvOk K io ρ σ Hf Hs H) (g : Gr H H' Hs Hs') : EnvOk K io ρ σ Hf Hs' H' ∧ ExF Hf Hs Hs' := ⟨E.grow g.ex g.s g.st g.nw, E.growF g.s g.nw⟩
end
/-- what comes back: data, or a new object -/
def RetOk (K : PySem.W.Frag) (H Hs' H' : Hp) (v : V) : Res → Prop
  | .val d => Den K Hs' v d
  | .own d => ∃ p, v = .ref p ∧ H p = none ∧ Hs' p = none ∧ OwnAt K Hs' H' p d
section
variable {K : PySem.W.Frag} {io : Option Addr} {ρ : Rho} {σ : L2.St} {Hf Hs H Hs' H' : Hp} {v : V} {r : Res}
theorem EnvOk.ret (E : EnvOk K io ρ σ Hf Hs H) (h : RetOk K H Hs' H' v r) : ResOk K ρ σ Hf Hs' H' v r := by
  cases r with
  | val d => exact h
  | own d =>
    obtain ⟨p, rfl, h1, h2, h3⟩ := h
    exact ⟨p, rfl, h3, h2, E.fr.none h1, E.noOwn h1⟩
end
/-! ### names, constants -/
section
variable {X : Cx} {ρ ρ1 ρ2 ρ3 : Rho} {pos : Pos} {a b c e : Expr} {es : List Expr} {r : Res} {d x y z : D}
theorem pd_var (i : Nat) {x : Str} (h : ρ[i]? = some (.val d) := by rfl) (hN : X.N[i]? = some x := by rfl) (hv : Vis X.env.scope x := by first | exact Or.inl rfl | exact Or.inr (Or.inl rfl) | exact Or.inr (Or.inr rfl))
    (hd : (x == ("__debug__" : Str)) = false := by decide) (hcd : (x == ("__classdict__" : Str)) = false := by decide) : PD X (.Name x pos) ρ (.val d) ρ :=
  pe_imp (pe_var hN hv hd hcd) fun σ H Q ⟨io, Hf, Hs, E, k⟩ => by
    obtain ⟨v, h1, h2⟩ := E.val i d h
    exact ⟨v, h1, k v Hs H E ExF.refl h2⟩
/-- an owned slot handed on -/
theorem pd_move (i : Nat) {x : Str} (h : ρ[i]? = some (.own d) := by rfl) (hN : X.N[i]? = some x := by rfl) (hv : Vis X.env.scope x := by first | exact Or.inl rfl | exact Or.inr (Or.inl rfl) | exact Or.inr (Or.inr rfl))
    (hd : (x == ("__debug__" : Str)) = false := by decide) (hcd : (x == ("__classdict__" : Str)) = false := by decide) : PD X (.Name x pos) ρ (.own d) (ρ.set i .non) :=
  pe_imp (pe_var hN hv hd hcd) fun σ H Q ⟨io, Hf, Hs, E, k⟩ => by
    obtain ⟨a, h1, h2, h3, h4⟩ := E.own i d h
    refine ⟨.ref a, h1, k _ Hs H (E.drop i) ExF.refl ⟨a, rfl, h2, h3, h4, fun j e' q z => ?_⟩⟩
    by_cases hj : i = j
    · subst hj
      rw [List.getElem?_set_self (List.getElem?_eq_some_iff.mp h).1] at q
      cases q
    · rw [get_set_ne hj] at q
      exact hj (E.sep i j d e' a h q h1 z)
theorem pd_still (h : PD X e ρ (.own d) ρ1) : PD X e ρ (.val d) ρ1 :=
  pe_imp h fun σ H Q ⟨io, Hf, Hs, E, k⟩ => ⟨io, Hf, Hs, E, fun v Hs' H' E' f q => by
    obtain ⟨Hs2, f2, E2, q2⟩ := ResOk.still E' q
    exact k v Hs2 H' E2 (f.trans f2) q2⟩
theorem pd_int {i : Int} {j : Nat} : PD X (.Constant (.int i) j pos) ρ (.val (.int i)) ρ := pe_imp pe_int fun σ H Q ⟨io, Hf, Hs, E, k⟩ => k _ Hs H E ExF.refl (.int i)
theorem pd_bl {i : Bool} {j : Nat} : PD X (.Constant (.bool i) j pos) ρ (.val (.bl i)) ρ := pe_imp pe_bl fun σ H Q ⟨io, Hf, Hs, E, k⟩ => k _ Hs H E ExF.refl (.bl i)
theorem pd_non {j : Nat} : PD X (.Constant .none j pos) ρ (.val .non) ρ := pe_imp pe_non fun σ H Q ⟨io, Hf, Hs, E, k⟩ => k _ Hs H E ExF.refl .non
theorem pd_str {x : Str} {j : Nat} : PD X (.Constant (.str x) j pos) ρ (.val (.str x)) ρ := pe_imp pe_str fun σ H Q ⟨io, Hf, Hs, E, k⟩ => k _ Hs H E ExF.refl (.str x)
theorem pd_glob {x : Str} {u : Addr} (hm : X.mg x = some (.ref u)) (hg : Gl X x := by rfl) (hd : (x == ("__debug__" : Str)) = false := by decide) : PD X (.Name x pos) ρ (.val (.adr u)) ρ :=
  pe_imp (pe_glob (v := .ref u) hg hm rfl hd) fun σ H Q ⟨io, Hf, Hs, E, k⟩ => k _ Hs H E ExF.refl (.adr u)
theorem pd_globI {x : Str} {i : Int} {t : Tok} (hm : X.mg x = some (.int i t)) (hg : Gl X x := by rfl) (hd : (x == ("__debug__" : Str)) = false := by decide) : PD X (.Name x pos) ρ (.val (.int i)) ρ :=
  pe_imp (pe_glob (v := .int i) hg hm ⟨_, rfl⟩ hd) fun σ H Q ⟨io, Hf, Hs, E, k⟩ => k _ Hs H E ExF.refl (.int i)
theorem pd_ty {x : Str} {n : String} (hm : X.mg x = none) (hv : bootBuiltins x = some (.type n) := by decide +kernel) (hg : Gl X x := by rfl) (hn : x ≠ "__name__" := by decide) (hd : (x == ("__debug__" : Str)) = false := by decide) : PD X (.Name x pos) ρ (.val (.ty n)) ρ :=
  pe_imp (pe_bltn (v := .ty n) hg hm hv rfl hn hd) fun σ H Q ⟨io, Hf, Hs, E, k⟩ => k _ Hs H E ExF.refl (.ty n)
/-! ### operators -/
def rdO (K : PySem.W.Frag) (x y : D) (r : Res) : R2 := fun u v H Q => ∃ Hs, Ex Hs H ∧ Den K Hs u x ∧ Den K Hs v y ∧ ∀ w Hs' H', Gr H H' Hs Hs' → RetOk K H Hs' H' w r → Q w H'
def BinD (X : Cx) (f : Value → Value → Sem Value) (x y : D) (r : Res) : Prop := OpR X f (rdO X.K x y r)
def rdU (K : PySem.W.Frag) (x : D) (r : Res) : V → Hp → VK → Prop := fun u H Q => ∃ Hs, Ex Hs H ∧ Den K Hs u x ∧ ∀ w Hs' H', Gr H H' Hs Hs' → RetOk K H Hs' H' w r → Q w H'
def UnD (X : Cx) (f : Value → Sem Value) (x : D) (r : Res) : Prop := UnR X f (rdU X.K x r)
def rdC (K : PySem.W.Frag) (ds : List D) (r : Res) : List V → Hp → VK → Prop := fun vs H Q => ∃ Hs, Ex Hs H ∧ Dens K Hs vs ds ∧ ∀ w Hs' H', Gr H H' Hs Hs' → RetOk K H Hs' H' w r → Q w H'
def CallD (X : Cx) (f : Value) (ds : List D) (r : Res) : Prop := CallR X f (rdC X.K ds r)
theorem opr_imp {f : Value → Value → Sem Value} {q q' : R2} (h : OpR X f q) (i : ∀ u v H Q, q' u v H Q → q u v H Q) : OpR X f q' := fun pins s σ H x y v u Q I rx ry z => h pins s σ H x y v u Q I rx ry (i _ _ _ _ z)
theorem unr_imp {f : Value → Sem Value} {q q' : V → Hp → VK → Prop} (h : UnR X f q) (i : ∀ u H Q, q' u H Q → q u H Q) : UnR X f q' := fun pins s σ H x v Q I rx z => h pins s σ H x v Q I rx (i _ _ _ z)
theorem callr_imp {f : Value} {q q' : List V → Hp → VK → Prop} (h : CallR X f q) (i : ∀ u H Q, q' u H Q → q u H Q) : CallR X f q' := fun pins s σ H xs us Q I r z => h pins s σ H xs us Q I r (i _ _ _ z)
theorem pd_bin {op : Operator} (ha : PD X a ρ (.val x) ρ1) (hb : PD X b ρ1 (.val y) ρ2) (ho : BinD X (binaryOp op) x y r) : PD X (.BinOp a op b pos) ρ r ρ2 :=
  pe_imp (pe_op ho ha hb) fun σ H Q ⟨io, Hf, Hs, E, k⟩ => ⟨io, Hf, Hs, E, fun u Hs1 H1 E1 f1 d1 => ⟨io, Hf, Hs1, E1, fun v Hs2 H2 E2 f2 d2 => ⟨Hs2, E2.st, Den.mono f2.ex d1, d2, fun w Hs3 H3 g q => by
    obtain ⟨E3, f3⟩ := E2.gr g
    exact k w Hs3 H3 E3 ((f1.trans f2).trans f3) (E2.ret q)⟩⟩⟩
theorem pd_cmp {op : CmpOp} (ha : PD X a ρ (.val x) ρ1) (hb : PD X b ρ1 (.val y) ρ2) (ho : BinD X (compareOp op) x y r) (hm : behindInMarks op b = false) : PD X (.Compare a [op] [b] pos) ρ r ρ2 :=
  pe_imp (pe_cmpR ho ha hb hm) fun σ H Q ⟨io, Hf, Hs, E, k⟩ => ⟨io, Hf, Hs, E, fun u Hs1 H1 E1 f1 d1 => ⟨io, Hf, Hs1, E1, fun v Hs2 H2 E2 f2 d2 => ⟨Hs2, E2.st, Den.mono f2.ex d1, d2, fun w Hs3 H3 g q => by
    obtain ⟨E3, f3⟩ := E2.gr g
    exact k w Hs3 H3 E3 ((f1.trans f2).trans f3) (E2.ret q)⟩⟩⟩
theorem ptd_cmp {op : CmpOp} {k : Bool} (ha : PD X a ρ (.val x) ρ1) (hb : PD X b ρ1 (.val y) ρ2) (ho : BinD X (compareOp op) x y (.val (.bl k))) (hm : behindInMarks op b = false) : PTD X (.Compare a [op] [b] pos) ρ k ρ2 :=
  pt_imp (pt_cmpR ho ha hb hm) fun σ H Q ⟨io, Hf, Hs, E, kk⟩ => ⟨io, Hf, Hs, E, fun u Hs1 H1 E1 f1 d1 => ⟨io, Hf, Hs1, E1, fun v Hs2 H2 E2 f2 d2 => ⟨Hs2, E2.st, Den.mono f2.ex d1, d2, fun w Hs3 H3 g q => by
    obtain ⟨E3, f3⟩ := E2.gr g
    cases q
    exact ⟨k, rfl, kk Hs3 H3 E3 ((f1.trans f2).trans f3)⟩⟩⟩⟩
theorem pd_un {op : UnaryOp} (ha : PD X a ρ (.val x) ρ1) (ho : UnD X (unaryOp op) x r) : PD X (.UnaryOp op a pos) ρ r ρ1 :=
  pe_imp (pe_un ho ha) fun σ H Q ⟨io, Hf, Hs, E, k⟩ => ⟨io, Hf, Hs, E, fun u Hs1 H1 E1 f1 d1 => ⟨Hs1, E1.st, d1, fun w Hs3 H3 g q => by
    obtain ⟨E3, f3⟩ := E1.gr g
    exact k w Hs3 H3 E3 (f1.trans f3) (E1.ret q)⟩⟩
/-! ### tests -/
/-- a test whose value is a bool -/
theorem ptd_bl {k : Bool} (h : PD X e ρ (.val (.bl k)) ρ1) (he : ∀ whole, isTrue e X.env whole = (do let v ← whole; standAt e.pos; holding [v] (truthy v)) := by intro _; rfl) : PTD X e ρ k ρ1 :=
  pt_imp (pt_val h he) fun σ H Q ⟨io, Hf, Hs, E, kk⟩ => ⟨io, Hf, Hs, E, fun v Hs' H' E' f q => by cases q; exact ⟨k, rfl, kk Hs' H' E' f⟩⟩
theorem ptd_not {k : Bool} (h : PTD X e ρ k ρ1) : PTD X (.UnaryOp .Not e pos) ρ (!k) ρ1 :=
  pt_imp (pt_not h) fun σ H Q ⟨io, Hf, Hs, E, kk⟩ => ⟨io, Hf, Hs, E, fun Hs' H' E' f => kk Hs' H' E' f⟩
/-- as a test whatever its whole is -/
def PWD (X : Cx) (e : Expr) (ρ : Rho) (b : Bool) (ρ' : Rho) : Prop := PW X e (rdT X.K ρ b ρ')
theorem PWD.pt {k : Bool} (h : PWD X e ρ k ρ1) : PTD X e ρ k ρ1 := PW.pt h
theorem pw_imp {t t' : TT} (h : PW X e t) (i : ∀ σ H Q, t' σ H Q → t σ H Q) : PW X e t' := ⟨fun wh pins s σ H Q I q => h.run wh pins s σ H Q I (i σ H Q q)⟩
theorem pwd_and1 {k : Bool} (h : PTD X a ρ k ρ1) : PWD X (.BoolOp .And [a] pos) ρ k ρ1 := pw_and1 h
theorem pwd_or1 {k : Bool} (h : PTD X a ρ k ρ1) : PWD X (.BoolOp .Or [a] pos) ρ k ρ1 := pw_or1 h
/-- a and b as a test (b leaves the slots as they are) -/
theorem pwd_and {k l : Bool} {rest : List Expr} (h1 : PTD X a ρ k ρ1) (h2 : k = true → PWD X (.BoolOp .And (b :: rest) pos) ρ1 l ρ1) : PWD X (.BoolOp .And (a :: b :: rest) pos) ρ (k && l) ρ1 := by
  cases k with
  | true =>
    refine pw_imp (pw_and h1 (h2 rfl)) fun σ H Q ⟨io, Hf, Hs, E, kk⟩ => ⟨io, Hf, Hs, E, fun Hs' H' E' f => ?_⟩
    refine iteT ?_
    exact ⟨io, Hf, Hs', E', fun Hs2 H2 E2 f2 => kk Hs2 H2 E2 (f.trans f2)⟩
  | false =>
    refine pw_imp (pw_and (tB' := fun _ _ _ => False) h1 ⟨fun _ _ _ _ _ _ _ q => q.elim⟩) fun σ H Q ⟨io, Hf, Hs, E, kk⟩ => ⟨io, Hf, Hs, E, fun Hs' H' E' f => ?_⟩
    refine iteF ?_
    exact kk Hs' H' E' f
theorem pwd_or {k l : Bool} {rest : List Expr} (h1 : PTD X a ρ k ρ1) (h2 : k = false → PWD X (.BoolOp .Or (b :: rest) pos) ρ1 l ρ1) : PWD X (.BoolOp .Or (a :: b :: rest) pos) ρ (k || l) ρ1 := by
  cases k with
  | false =>
    refine pw_imp (pw_or h1 (h2 rfl)) fun σ H Q ⟨io, Hf, Hs, E, kk⟩ => ⟨io, Hf, Hs, E, fun Hs' H' E' f => ?_⟩
    refine iteF ?_
    exact ⟨io, Hf, Hs', E', fun Hs2 H2 E2 f2 => kk Hs2 H2 E2 (f.trans f2)⟩
  | true =>
    refine pw_imp (pw_or (tB' := fun _ _ _ => False) h1 ⟨fun _ _ _ _ _ _ _ q => q.elim⟩) fun σ H Q ⟨io, Hf, Hs, E, kk⟩ => ⟨io, Hf, Hs, E, fun Hs' H' E' f => ?_⟩
    refine iteT ?_
    exact kk Hs' H' E' f
/-- and, or, not as values (bools) -/
theorem pd_one {op : BoolOp} (h : PD X a ρ r ρ1) : PD X (.BoolOp op [a] pos) ρ r ρ1 := pe_one h
theorem pd_and {k l : Bool} {rest : List Expr} (h1 : PD X a ρ (.val (.bl k)) ρ1) (h2 : k = true → PD X (.BoolOp .And (b :: rest) pos) ρ1 (.val (.bl l)) ρ1) : PD X (.BoolOp .And (a :: b :: rest) pos) ρ (.val (.bl (k && l))) ρ1 := by
  cases k with
  | true =>
    refine pe_imp (pe_and h1 (h2 rfl)) fun σ H Q ⟨io, Hf, Hs, E, kk⟩ => ⟨io, Hf, Hs, E, fun v Hs' H' E' f q => ?_⟩
    cases q
    refine ⟨true, rfl, ?_⟩
    refine iteT ?_
    exact ⟨io, Hf, Hs', E', fun v2 Hs2 H2 E2 f2 => kk v2 Hs2 H2 E2 (f.trans f2)⟩
  | false =>
    refine pe_imp (pe_and (tb := fun _ _ _ => False) h1 ⟨fun _ _ _ _ _ _ q => q.elim⟩) fun σ H Q ⟨io, Hf, Hs, E, kk⟩ => ⟨io, Hf, Hs, E, fun v Hs' H' E' f q => ?_⟩
    cases q
    refine ⟨false, rfl, ?_⟩
    refine iteF ?_
    exact kk _ Hs' H' E' f (.bl false)
theorem pd_or {k l : Bool} {rest : List Expr} (h1 : PD X a ρ (.val (.bl k)) ρ1) (h2 : k = false → PD X (.BoolOp .Or (b :: rest) pos) ρ1 (.val (.bl l)) ρ1) : PD X (.BoolOp .Or (a :: b :: rest) pos) ρ (.val (.bl (k || l))) ρ1 := by
  cases k with
  | false =>
    refine pe_imp (pe_or h1 (h2 rfl)) fun σ H Q ⟨io, Hf, Hs, E, kk⟩ => ⟨io, Hf, Hs, E, fun v Hs' H' E' f q => ?_⟩
    cases q
    refine ⟨false, rfl, ?_⟩
    refine iteF ?_
    exact ⟨io, Hf, Hs', E', fun v2 Hs2 H2 E2 f2 => kk v2 Hs2 H2 E2 (f.trans f2)⟩
  | true =>
    refine pe_imp (pe_or (tb := fun _ _ _ => False) h1 ⟨fun _ _ _ _ _ _ q => q.elim⟩) fun σ H Q ⟨io, Hf, Hs, E, kk⟩ => ⟨io, Hf, Hs, E, fun v Hs' H' E' f q => ?_⟩
    cases q
    refine ⟨true, rfl, ?_⟩
    refine iteT ?_
    exact kk _ Hs' H' E' f (.bl true)
theorem pd_not {k : Bool} (h : PD X a ρ (.val (.bl k)) ρ1) : PD X (.UnaryOp .Not a pos) ρ (.val (.bl (!k))) ρ1 :=
  pe_imp (pe_not h) fun σ H Q ⟨io, Hf, Hs, E, kk⟩ => ⟨io, Hf, Hs, E, fun v Hs' H' E' f q => by cases q; exact ⟨k, rfl, kk _ Hs' H' E' f (.bl _)⟩⟩
/-- a if c else b -/
theorem pd_ifT (hc : PTD X c ρ true ρ1) (ha : PD X a ρ1 r ρ2) : PD X (.IfExp c a b pos) ρ r ρ2 :=
  pe_imp (pe_ifExp (tb := fun _ _ _ => False) hc ha ⟨fun _ _ _ _ _ _ q => q.elim⟩) fun σ H Q ⟨io, Hf, Hs, E, kk⟩ => ⟨io, Hf, Hs, E, fun Hs' H' E' f => by
    refine iteT ?_
    exact ⟨io, Hf, Hs', E', fun v2 Hs2 H2 E2 f2 => kk v2 Hs2 H2 E2 (f.trans f2)⟩⟩
theorem pd_ifF (hc : PTD X c ρ false ρ1) (hb : PD X b ρ1 r ρ2) : PD X (.IfExp c a b pos) ρ r ρ2 :=
  pe_imp (pe_ifExp (ta := fun _ _ _ => False) hc ⟨fun _ _ _ _ _ _ q => q.elim⟩ hb) fun σ H Q ⟨io, Hf, Hs, E, kk⟩ => ⟨io, Hf, Hs, E, fun Hs' H' E' f => by
    refine iteF ?_
    exact ⟨io, Hf, Hs', E', fun v2 Hs2 H2 E2 f2 => kk v2 Hs2 H2 E2 (f.trans f2)⟩⟩
/-- both ways, one result -/
theorem pd_if {k : Bool} (hc : PTD X c ρ k ρ1) (ha : k = true → PD X a ρ1 r ρ2) (hb : k = false → PD X b ρ1 r ρ2) : PD X (.IfExp c a b pos) ρ r ρ2 := by
  cases k with
  | true => exact pd_ifT hc (ha rfl)
  | false => exact pd_ifF hc (hb rfl)
/-! ### arguments, displays -/
theorem pad_nil : PAD X [] ρ [] ρ := pa_imp pa_nil fun σ H Q ⟨io, Hf, Hs, E, k⟩ => k [] Hs H E ExF.refl .nil
theorem pad_cons {ds : List D} (h1 : PD X e ρ (.val d) ρ1) (h2 : PAD X es ρ1 ds ρ2) (hs : starEach (e :: es) X.env = (false, eval e X.env) :: starEach es X.env := by rfl) : PAD X (e :: es) ρ (d :: ds) ρ2 :=
  pa_imp (pa_cons h1 h2 hs) fun σ H Q ⟨io, Hf, Hs, E, k⟩ => ⟨io, Hf, Hs, E, fun v Hs1 H1 E1 f1 q1 => ⟨io, Hf, Hs1, E1, fun vs Hs2 H2 E2 f2 q2 => k _ Hs2 H2 E2 (f1.trans f2) (.cons (Den.mono f2.ex q1) q2)⟩⟩
theorem pd_tup {ds : List D} {x1 : Nat} (h : PAD X es ρ ds ρ1) (hz : ds.length ≤ 1000 := by first | decide | exact Nat.le_of_ble_eq_true rfl) : PD X (.Tuple es x1 pos) ρ (.val (.tup ds)) ρ1 :=
  pe_imp (pe_tup h) fun σ H Q ⟨io, Hf, Hs, E, k⟩ => ⟨io, Hf, Hs, E, fun vs Hs1 H1 E1 f1 q1 => ⟨by rw [q1.length]; exact Nat.le_trans hz (by decide), fun p hp => by
    obtain ⟨E2, f2⟩ := E1.gr (Gr.new (o := .tup vs) E1.st hp)
    exact k _ _ _ E2 (f1.trans f2) (.tup upd_same (q1.mono f2.ex))⟩⟩
theorem pd_lst {ds : List D} (h : PAD X es ρ ds ρ1) (hz : ds.length ≤ 1000 := by first | decide | exact Nat.le_of_ble_eq_true rfl) : PD X (.List es pos) ρ (.own (.lst ds)) ρ1 :=
  pe_imp (pe_lst h) fun σ H Q ⟨io, Hf, Hs, E, k⟩ => ⟨io, Hf, Hs, E, fun vs Hs1 H1 E1 f1 q1 => ⟨by rw [q1.length]; exact Nat.le_trans hz (by decide), fun p hp => by
    obtain ⟨E2, f2⟩ := E1.gr (Gr.newo (o := .lst vs) E1.st hp)
    exact k _ _ _ E2 (f1.trans f2) (E1.ret (r := .own (.lst ds)) ⟨p, rfl, hp, E1.st.none hp, vs, upd_same, q1⟩)⟩⟩
/-! ### subscripts, slices -/
theorem den_at {K : PySem.W.Frag} {H : Hp} {vs : List V} {ds : List D} {i : Int} (h : Dens K H vs ds) (q : atI ds i = some d) : ∃ v, atI vs i = some v ∧ Den K H v d := by
  unfold atI at q ⊢
  rw [h.length]
  cases e : ixN ds.length i with
  | none => rw [e] at q; cases q
  | some j =>
    rw [e] at q
    exact h.get q
theorem pd_ixL {ds : List D} {i : Int} (ha : PD X a ρ (.val (.lst ds)) ρ1) (hb : PD X b ρ1 (.val (.int i)) ρ2) (h : atI ds i = some d) (hs : PlainIx b := by exact fun _ _ => rfl) : PD X (.Subscript a b pos) ρ (.val d) ρ2 :=
  pe_imp (pe_ix ix_list ha hb hs) fun σ H Q ⟨io, Hf, Hs, E, k⟩ => ⟨io, Hf, Hs, E, fun u Hs1 H1 E1 f1 d1 => ⟨io, Hf, Hs1, E1, fun v Hs2 H2 E2 f2 d2 => by
    obtain ⟨p, vs, rfl, q1, q2⟩ := Den.seqL (.inl (Den.mono f2.ex d1))
    obtain ⟨w, w1, w2⟩ := den_at q2 h
    cases d2
    exact ⟨p, vs, i, w, rfl, rfl, ex_l E2.st q1, w1, k w Hs2 H2 E2 (f1.trans f2) w2⟩⟩⟩
theorem pd_ixLK {ds : List D} {i : Int} (ha : PD X a ρ (.val (.lstK ds)) ρ1) (hb : PD X b ρ1 (.val (.int i)) ρ2) (h : atI ds i = some d) (hs : PlainIx b := by exact fun _ _ => rfl) : PD X (.Subscript a b pos) ρ (.val d) ρ2 :=
  pe_imp (pe_ix ix_list ha hb hs) fun σ H Q ⟨io, Hf, Hs, E, k⟩ => ⟨io, Hf, Hs, E, fun u Hs1 H1 E1 f1 d1 => ⟨io, Hf, Hs1, E1, fun v Hs2 H2 E2 f2 d2 => by
    obtain ⟨p, vs, rfl, q1, q2⟩ := Den.seqL (.inr (Den.mono f2.ex d1))
    obtain ⟨w, w1, w2⟩ := den_at q2 h
    cases d2
    exact ⟨p, vs, i, w, rfl, rfl, ex_l E2.st q1, w1, k w Hs2 H2 E2 (f1.trans f2) w2⟩⟩⟩
theorem pd_ixT {ds : List D} {i : Int} (ha : PD X a ρ (.val (.tup ds)) ρ1) (hb : PD X b ρ1 (.val (.int i)) ρ2) (h : atI ds i = some d) (hs : PlainIx b := by exact fun _ _ => rfl) : PD X (.Subscript a b pos) ρ (.val d) ρ2 :=
  pe_imp (pe_ix ix_tup ha hb hs) fun σ H Q ⟨io, Hf, Hs, E, k⟩ => ⟨io, Hf, Hs, E, fun u Hs1 H1 E1 f1 d1 => ⟨io, Hf, Hs1, E1, fun v Hs2 H2 E2 f2 d2 => by
    obtain ⟨p, vs, rfl, q1, q2⟩ := Den.seqT (.inl (Den.mono f2.ex d1))
    obtain ⟨w, w1, w2⟩ := den_at q2 h
    cases d2
    exact ⟨p, vs, i, w, rfl, rfl, ex_t E2.st q1, w1, k w Hs2 H2 E2 (f1.trans f2) w2⟩⟩⟩
theorem pd_ixTK {ds : List D} {i : Int} (ha : PD X a ρ (.val (.tupK ds)) ρ1) (hb : PD X b ρ1 (.val (.int i)) ρ2) (h : atI ds i = some d) (hs : PlainIx b := by exact fun _ _ => rfl) : PD X (.Subscript a b pos) ρ (.val d) ρ2 :=
  pe_imp (pe_ix ix_tup ha hb hs) fun σ H Q ⟨io, Hf, Hs, E, k⟩ => ⟨io, Hf, Hs, E, fun u Hs1 H1 E1 f1 d1 => ⟨io, Hf, Hs1, E1, fun v Hs2 H2 E2 f2 d2 => by
    obtain ⟨p, vs, rfl, q1, q2⟩ := Den.seqT (.inr (Den.mono f2.ex d1))
    obtain ⟨w, w1, w2⟩ := den_at q2 h
    cases d2
    exact ⟨p, vs, i, w, rfl, rfl, ex_t E2.st q1, w1, k w Hs2 H2 E2 (f1.trans f2) w2⟩⟩⟩
/-- x[i], x an owned list's name -/
theorem pd_ixO (j : Nat) {x : Str} {p : Pos} {ds : List D} {i : Int} (hb : PD X b ρ (.val (.int i)) ρ1) (ho : ρ1[j]? = some (.own (.lst ds)) := by rfl) (h : atI ds i = some d) (hN : X.N[j]? = some x := by rfl)
    (hv : Vis X.env.scope x := by first | exact Or.inl rfl | exact Or.inr (Or.inl rfl) | exact Or.inr (Or.inr rfl)) (hs : PlainIx b := by exact fun _ _ => rfl) (hd : (x == ("__debug__" : Str)) = false := by decide) (hcd : (x == ("__classdict__" : Str)) = false := by decide)
    (h0 : ∃ d0, ρ[j]? = some (.own d0) := by exact ⟨_, rfl⟩) : PD X (.Subscript (.Name x p) b pos) ρ (.val d) ρ1 :=
  pe_imp (pe_ix ix_list (pe_var hN hv hd hcd) hb hs) fun σ H Q ⟨io, Hf, Hs, E, k⟩ => by
    obtain ⟨d0, h0⟩ := h0
    obtain ⟨q, g1, g2, g3, g4⟩ := E.own j d0 h0
    refine ⟨.ref q, g1, ⟨io, Hf, Hs, E, fun v Hs2 H2 E2 f2 d2 => ?_⟩⟩
    obtain ⟨q', z1, z2, z3, z4⟩ := E2.own j _ ho
    rw [g1] at z1
    cases z1
    obtain ⟨vs, y1, y2⟩ := z2
    obtain ⟨w, w1, w2⟩ := den_at y2 h
    cases d2
    exact ⟨q, vs, i, w, rfl, rfl, .inl (.inl y1), w1, k w Hs2 H2 E2 f2 w2⟩
/-! ### fields -/
theorem pd_fld {f : Str} {C : Addr} {gs : List (Str × D)} (he : PD X e ρ (.val (.obj C gs)) ρ1) (c : Cls X.K C) (n : NoAttr X.K C f) (l : gs.lookup f = some d) (hb : attributeBase e f X.env (eval e X.env) = eval e X.env := by rfl) : PD X (.Attribute e f pos) ρ (.val d) ρ1 :=
  pe_imp (pe_fld he hb) fun σ H Q ⟨io, Hf, Hs, E, k⟩ => ⟨io, Hf, Hs, E, fun v Hs1 H1 E1 f1 q => by
    cases q with
    | @obj a C dx fs gs q1 q2 =>
      obtain ⟨w, w1, w2⟩ := q2.look l
      exact ⟨a, C, dx, fs, w, rfl, E1.st _ _ q1, c, n, w1, k w Hs1 H1 E1 f1 w2⟩⟩
end
/-! ### statements -/
section
variable {X : Cx} {bi : Bool} {ρ ρ1 ρ2 : Rho} {k : Kn} {pos : Pos} {st : Stmt} {rest body orelse : List Stmt} {e : Expr} {r : Res} {d : D}
theorem psd_nil (h : k.nx ρ) : PSD X bi [] ρ k := pss_imp pss_nil fun Z σ H ⟨io, Hf, Hs, hb, E, kk⟩ => kk.nx ρ σ Hs H h E ExF.refl
theorem psd_cons (M : Rho → Prop) (h1 : PS1 X bi st ρ { k with nx := M }) (h2 : ∀ ρ1, M ρ1 → PSD X bi rest ρ1 k) : PSD X bi (st :: rest) ρ k :=
  pss_imp (pss_cons h1 (pss_any (tf := fun a : { ρ1 : Rho // M ρ1 } => rdS X.K bi a.1 k) fun a => h2 a.1 a.2)) fun Z σ H ⟨io, Hf, Hs, hb, E, kk⟩ =>
    ⟨io, Hf, Hs, hb, E, ⟨fun ρ' σ' Hs' H' m E' f => ⟨⟨ρ', m⟩, io, Hf, Hs', hb, E', kk.later f⟩, kk.rt, kk.bk, kk.ct⟩⟩
theorem psd_st (h1 : PS1 X bi st ρ { k with nx := fun ρ' => ρ' = ρ1 }) (h2 : PSD X bi rest ρ1 k) : PSD X bi (st :: rest) ρ k := psd_cons _ h1 fun _ e => e ▸ h2
/-- a slot that owns is stilled -/
theorem psd_still (i : Nat) (h0 : ρ[i]? = some (.own d)) (h : PSD X bi rest (ρ.set i (.val d)) k) : PSD X bi rest ρ k :=
  pss_imp h fun Z σ H ⟨io, Hf, Hs, hb, E, kk⟩ => by
    obtain ⟨Hs', f, E'⟩ := E.still h0
    exact ⟨io, Hf, Hs', hb, E', kk.later f⟩
theorem ps1_set (i : Nat) {x : Str} {p : Pos} (hN : X.N.Nodup) (he : PD X e ρ r ρ1) (hk : k.nx (ρ1.set i r.sl) := by rfl) (hi : X.N[i]? = some x := by rfl) (hx : Loc X.env.scope x := by first | exact Or.inl rfl | exact Or.inr rfl)
    (hio : i ≠ 0 ∨ bi = false := by first | exact Or.inl (by decide) | exact Or.inr rfl) (hs : swapsWith e (some (.Name x p)) pos.line X.env = pure false := by rfl)
    (hf : X.fn x = true ∨ X.env.scope.names.lookup x = some .local := by first | exact .inl rfl | exact .inr rfl) : PS1 X bi (.Assign [.Name x p] e pos) ρ k :=
  ps_imp (ps_set hN hi hx he hs hf) fun Z σ H ⟨io, Hf, Hs, hb, E, kk⟩ => ⟨io, Hf, Hs, E, fun v Hs1 H1 E1 f1 q1 =>
    kk.nx _ _ Hs1 H1 hk (E1.setr q1 (hio.imp_right hb)) f1⟩
theorem ps1_ret (he : PD X e ρ r ρ1) (hk : k.rt r ρ1) : PS1 X bi (.Return (some e) pos) ρ k :=
  ps_imp (ps_ret he) fun Z σ H ⟨io, Hf, Hs, hb, E, kk⟩ => ⟨io, Hf, Hs, E, fun v Hs1 H1 E1 f1 q1 => kk.rt _ _ v σ Hs1 H1 hk E1 f1 q1⟩
theorem ps1_retN (hk : k.rt (.val .non) ρ) : PS1 X bi (.Return none pos) ρ k :=
  ps_imp ps_retN fun Z σ H ⟨io, Hf, Hs, hb, E, kk⟩ => kk.rt _ _ .non σ Hs H hk E ExF.refl .non
theorem psd_ret {ss : List Stmt} (he : PD X e ρ r ρ1) (hk : k.rt r ρ1) : PSD X bi (.Return (some e) pos :: ss) ρ k := psd_cons (fun _ => False) (ps1_ret he hk) fun _ z => z.elim
theorem psd_retN {ss : List Stmt} (hk : k.rt (.val .non) ρ) : PSD X bi (.Return none pos :: ss) ρ k := psd_cons (fun _ => False) (ps1_retN hk) fun _ z => z.elim
theorem ps1_expr (he : PD X e ρ r ρ1) (hk : k.nx ρ1 := by rfl) (hs : swapsWith e none pos.line X.env = pure false := by rfl) : PS1 X bi (.Expr e pos) ρ k :=
  ps_imp (ps_expr he hs) fun Z σ H ⟨io, Hf, Hs, hb, E, kk⟩ => ⟨io, Hf, Hs, E, fun v Hs1 H1 E1 f1 q1 => kk.nx _ _ Hs1 H1 hk E1 f1⟩
theorem ps1_pass (hk : k.nx ρ := by rfl) : PS1 X bi (.Pass pos) ρ k := ps_imp ps_pass fun Z σ H ⟨io, Hf, Hs, hb, E, kk⟩ => kk.nx _ _ Hs H hk E ExF.refl
theorem ps1_break (hk : k.bk ρ) : PS1 X bi (.Break pos) ρ k := ps_imp ps_break fun Z σ H ⟨io, Hf, Hs, hb, E, kk⟩ => kk.bk _ _ Hs H hk E ExF.refl
theorem ps1_continue (hk : k.ct ρ) : PS1 X bi (.Continue pos) ρ k := ps_imp ps_continue fun Z σ H ⟨io, Hf, Hs, hb, E, kk⟩ => kk.ct _ _ Hs H hk E ExF.refl
theorem pss_dead {ss : List Stmt} : PSs X ss (fun _ _ _ => False) := ⟨fun _ _ _ _ _ _ h => h.elim⟩
theorem ps1_if {c : Expr} {b : Bool} (hc : PTD X c ρ b ρ1) (ha : b = true → PSD X bi body ρ1 k) (hb : b = false → PSD X bi orelse ρ1 k) : PS1 X bi (.If c body orelse pos) ρ k := by
  cases b with
  | true =>
    refine ps_imp (ps_if hc (ha rfl) (pss_dead (ss := orelse))) fun Z σ H ⟨io, Hf, Hs, hb, E, kk⟩ => ⟨io, Hf, Hs, E, fun Hs1 H1 E1 f1 => ?_⟩
    refine iteT ?_
    exact ⟨io, Hf, Hs1, hb, E1, kk.later f1⟩
  | false =>
    refine ps_imp (ps_if hc (pss_dead (ss := body)) (hb rfl)) fun Z σ H ⟨io, Hf, Hs, hb, E, kk⟩ => ⟨io, Hf, Hs, E, fun Hs1 H1 E1 f1 => ?_⟩
    refine iteF ?_
    exact ⟨io, Hf, Hs1, hb, E1, kk.later f1⟩
/-- an if in a block, either way goes on with the rest -/
theorem psd_if {c : Expr} {b : Bool} (hc : PTD X c ρ b ρ1) (ha : b = true → PSD X bi body ρ1 { k with nx := fun ρ' => PSD X bi rest ρ' k }) (hb : b = false → PSD X bi orelse ρ1 { k with nx := fun ρ' => PSD X bi rest ρ' k }) : PSD X bi (.If c body orelse pos :: rest) ρ k :=
  psd_cons (fun ρ' => PSD X bi rest ρ' k) (ps1_if hc ha hb) fun _ h => h
/-- .. the way is known -/
theorem psd_ifT {c : Expr} (hc : PTD X c ρ true ρ1) (ha : PSD X bi body ρ1 { k with nx := fun ρ' => PSD X bi rest ρ' k }) : PSD X bi (.If c body orelse pos :: rest) ρ k := psd_if hc (fun _ => ha) fun z => by cases z
theorem psd_ifF {c : Expr} (hc : PTD X c ρ false ρ1) (hb : PSD X bi orelse ρ1 { k with nx := fun ρ' => PSD X bi rest ρ' k }) : PSD X bi (.If c body orelse pos :: rest) ρ k := psd_if hc (fun z => by cases z) fun _ => hb
/-- .. no else, not taken -/
theorem psd_skip {c : Expr} (hc : PTD X c ρ false ρ1) (hr : PSD X bi rest ρ1 k) : PSD X bi (.If c body [] pos :: rest) ρ k := psd_ifF hc (psd_nil hr)
end
end Dn
end
section
set_option Elab.async false
set_option linter.all false
set_option maxRecDepth 100000
set_option maxHeartbeats 2000000
/-! DCall: promises of defs over data (spD; spIO: the first argument an owned object that is changed), bodies, calls. -/
namespace Dn
open PySem PySem.Spec L2
open PyProof.Rows (envOfC)
/-- a def keeps a promise (nothing is raised), where no built-in guard stands around it, if gd -/
structure FnB (gd : Bool) (P : Program) (w : World) (K : PySem.W.Frag) (mg : Str → Option Value) (base : Heap) (k : Nat) (f : Addr) (fd : FuncData) (ps : List Str) (sp : Sp) : Prop where
  len : ∀ vs H Q, sp vs H Q E0 → vs.length = ps.length
  run : ∀ (A : Around) (outer : List Env) (s : Shared) (H : Hp) (args : Args) (us : List Value) (vs : List V) (Q : VK), Room k A → (gd = true → A.guards = some []) → Env0 P w K mg base A outer s H →
    BindsTo s fd args (ps.zip us) → Vals vs us → sp vs H Q E0 → codeAny (model P w) A (.call (.ref f) args) (CR CX0 outer P w H s Q E0) s
section
variable {P : Program} {w : World} {K : PySem.W.Frag} {mg : Str → Option Value} {base : Heap} {x qual : Str} {st : Stmt} {f : Addr} {fd : FuncData} {N ps : List Str} {k : Nat} {sp : Sp} {gd : Bool}
theorem FnB.ok (F : FnB false P w K mg base k f fd ps sp) (hE : ∀ vs H Q E, sp vs H Q E → sp vs H Q E0) : FnOk P w K mg base CX0 k f fd ps sp :=
  ⟨fun vs H Q E h => F.len vs H Q (hE _ _ _ _ h), fun A outer s H args us vs Q E hr he hb hv hs => codeAny_mono (F.run A outer s H args us vs Q hr (fun z => Bool.noConfusion z) he hb hv (hE _ _ _ _ hs)) fun r s' q => by
    cases r with
    | ok fl => exact q
    | error e => exact False.elim q⟩
theorem FnB.mono {j : Nat} (F : FnB gd P w K mg base j f fd ps sp) (h : j ≤ k) : FnB gd P w K mg base k f fd ps sp := ⟨F.len, fun A outer s H args us vs Q hr => F.run A outer s H args us vs Q (hr.mono h)⟩
/-- a def of the text, its defaults whatever they are -/
structure FunG (K : PySem.W.Frag) (x qual : Str) (st : Stmt) (f : Addr) (fd : FuncData) : Prop where
  ex : ∃ (oc : Value) (od : Option Addr) (dV kV doc pm : Value) (an : Option Addr) (cdv ct : Value) (osl : Array (Option Value)),
    fd = PySem.W.fnOf x qual (defArgs st) (defBody st) (defScope st) dV kV doc pm an cdv ct ∧ K.lookup f = some ⟨oc, od, .func fd, osl⟩ ∧ PySem.W.codeIn K cdv qual = true
theorem FunG.of (F : Fun K x qual st f fd) : FunG K x qual st f fd := by
  obtain ⟨oc, od, kV, doc, pm, an, cdv, ct, osl, h1, h2, h3⟩ := F.ex
  exact ⟨oc, od, _, kV, doc, pm, an, cdv, ct, osl, h1, h2, h3⟩
theorem FunG.ofD {dvs : List V} {kws : List (Str × V)} (F : FunD K x qual (defArgs st) (defBody st) (defScope st) dvs kws f fd) : FunG K x qual st f fd := by
  obtain ⟨oc, od, dV, kV, doc, pm, an, cdv, ct, osl, h1, h2, h3, _, _⟩ := F.ex
  exact ⟨oc, od, dV, kV, doc, pm, an, cdv, ct, osl, h1, h2, h3⟩
/-- by its body -/
theorem fnB_of (F : FunG K x qual st f fd) (S : FnScope N ps (defScope st)) (len : ∀ vs H Q, sp vs H Q E0 → vs.length = ps.length)
    (body : ∀ (cdv : Value) (A : Around) (outer : List Env) (s : Shared) (H : Hp) (vs : List V) (Q : VK), Room k (A.deeper (envOfC qual (defScope st) s.heap.objs.size f cdv)) → (gd = true → A.guards = some []) → sp vs H Q E0 →
      ∃ t, PSs (cxOf CX0 P w K mg base N qual (defScope st) f cdv A outer s H E0).nox (defBody st) t ∧ t { nx := fun _ H' => Q .non H', rt := Q } (L2.start N vs) H) : FnB gd P w K mg base (k + 1) f fd ps sp := by
  obtain ⟨oc, od, dV, kV, doc, pm, an, cdv, ct, osl, rfl, at_, code⟩ := F.ex
  refine ⟨len, fun A outer s H args us vs Q room nog e0 bind vals promise => ?_⟩
  have same := len _ _ _ promise
  have kin : K.In s.heap := e0.mod.kin.keeps fun a u z => (e0.bs a u z).1
  have free : s.heap.NoLimit := e0.mod.nolimit.keeps fun a u z => (e0.bs a u z).1
  refine codeAny_call_function room.depth (kin _ _ at_) rfl S.co S.gen rfl (PySem.W.codeRec_of kin code) (bind _ _ _ _ ?_)
  refine wpAny_newFunctionEnv_cells S.kind (fun y hy => ?_) fun env he s1 inner => ?_
  · rcases S.par y.1 (List.of_mem_zip hy).1 with z | z
    · exact .inl z
    · exact .inr ⟨z, PySem.W.cellsFrom_some _ _ _ (.inl z)⟩
  cases he
  refine ⟨free.keeps inner.toInCall.keep, codeAny_func ?_⟩
  obtain ⟨t, runs, wish⟩ := body cdv A outer s H vs Q (room.deeper _) nog promise
  have start0 : Inv (cxOf CX0 P w K mg base N qual (defScope st) f cdv A outer s H E0) [] (L2.start N vs) H s1 := inv_start S room.hd e0 same vals inner
  refine wpAny_mono (runs.nox.run [] s1 _ H _ start0 wish) (fun fl s' hs => ?_) fun er s' hs => hs
  cases fl with
  | brk => obtain ⟨_, _, _, z⟩ := hs; exact False.elim z
  | cont => obtain ⟨_, _, _, z⟩ := hs; exact False.elim z
  | next =>
    obtain ⟨σ1, H1, J, z⟩ := hs
    exact ⟨V.non, H1, J.os, J.bare, J.base, J.hok, rfl, z⟩
  | ret u =>
    obtain ⟨v, σ1, H1, J, rel, z⟩ := hs
    exact ⟨v, H1, J.os, J.bare, J.base, J.hok, rel, z⟩
end
/-- a def of the module that keeps a promise; a method; a class that is made -/
structure Cal (gd : Bool) (P : Program) (w : World) (K : PySem.W.Frag) (mg : Str → Option Value) (base : Heap) (k : Nat) (x : Str) (sp : Sp) (dvs : List V) : Prop where
  ex : ∃ (f : Addr) (fd : FuncData) (ps : List Str) (ds : List Value), FnB gd P w K mg base k f fd ps sp ∧ mg x = some (.ref f) ∧ PySem.W.keepIn K (.ref f) = true ∧ Binds K fd ps ds ∧ Vals dvs ds
structure Met (P : Program) (w : World) (K : PySem.W.Frag) (mg : Str → Option Value) (base : Heap) (k : Nat) (C : Addr) (m : Str) (sp : Sp) (dvs : List V) : Prop where
  ex : ∃ (f : Addr) (fd : FuncData) (ps : List Str) (ds : List Value), Cls K C ∧ Meth K C m f ∧ FnOk P w K mg base CX0 k f fd ps sp ∧ Binds K fd ps ds ∧ Vals dvs ds
structure Mak (P : Program) (w : World) (K : PySem.W.Frag) (mg : Str → Option Value) (base : Heap) (k : Nat) (x : Str) (C : Addr) (sp : Sp) (dvs : List V) : Prop where
  ex : ∃ (f : Addr) (fd : FuncData) (ps : List Str) (ds : List Value), Mk K C f ∧ FnOk P w K mg base CX0 k f fd ps sp ∧ mg x = some (.ref C) ∧ Binds K fd ps ds ∧ Vals dvs ds
section
variable {X : Cx} {pos p apos : Pos} {e o : Expr} {es : List Expr} {x m : Str} {C : Addr} {k j : Nat} {sp : Sp} {dvs : List V} {t : TA} {ta : TE}
/-- the callee runs -/
theorem runB {gd : Bool} {pins : List (Addr × Obj)} {σ : L2.St} {H : Hp} {s : Shared} {Q : VK} {f : Addr} {fd : FuncData} {ps : List Str} {us ds : List Value} {vs : List V} (F : FnB gd X.prog X.w X.K X.mg X.base k f fd ps sp) (room : Room k X.A) (nog : gd = true → X.A.guards = some []) (bind : Binds X.K fd ps ds) (dv : Vals dvs ds)
    (I : Inv X pins σ H s) (rel : Vals vs us) (promise : sp (vs ++ dvs) H Q E0) : wpAny (model X.prog X.w) X.A (call (.ref f) us) (EP X pins σ Q) X.xe s := by
  have all := rel.append dv
  have many : (us ++ ds).length = ps.length := all.length.symm.trans (F.len _ _ _ promise)
  refine wpAny_call (codeAny_mono (F.run X.A X.stack s H ⟨us, []⟩ (us ++ ds) (vs ++ dvs) Q room nog I.env0 (bind s us I.kIn many) all promise) fun res s' z => ?_)
  cases res with
  | error er => exact False.elim z
  | ok fl => cases fl <;> first | exact I.after z | exact False.elim z
theorem pe_c {gd : Bool} (c : Cal gd X.prog X.w X.K X.mg X.base k x sp dvs) (hr : Room j X.A) (nog : gd = true → X.A.guards = some []) (hk : k ≤ j) (hg : Gl X x) (ha : PA X (e :: es) t)
    (hdb : (x == ("__debug__" : Str)) = false := by decide) (he : starEach (e :: es) X.env = (false, eval e X.env) :: starEach es X.env := by rfl) (hpl : (backTo pos (starEach es X.env)).any (·.1) = false := by rfl) :
    PE X (.Call (.Name x p) (e :: es) [] pos) (tCall sp dvs E0 t) := by
  obtain ⟨f, fd, ps, ds, F, hm, kp, b, d⟩ := c.ex
  exact ⟨fun pins s σ H Q I z => wpAny_Call_Name_kw (ld_glob I hg hm (PySem.W.callWith_K (h₀ := X.base) I.ok.mod.kin kp (thn (ha.run pos pins s σ H _ I z) fun us s1 ⟨vs, H1, I1, rel, q⟩ => ⟨I1.kIn, runB F (hr.mono hk) nog b d I1 rel q⟩) he hpl) hdb)⟩
theorem pe_c0 {gd : Bool} (c : Cal gd X.prog X.w X.K X.mg X.base k x sp dvs) (hr : Room j X.A) (nog : gd = true → X.A.guards = some []) (hk : k ≤ j) (hg : Gl X x) (hdb : (x == ("__debug__" : Str)) = false := by decide) : PE X (.Call (.Name x p) [] [] pos) (tCall sp dvs E0 tNil) := by
  obtain ⟨f, fd, ps, ds, F, hm, kp, b, d⟩ := c.ex
  exact ⟨fun pins s σ H Q I z => wpAny_Call_Name_kw (ld_glob I hg hm (PySem.W.callWith_K0 I.kIn kp (runB (us := []) F (hr.mono hk) nog b d I .nil z)) hdb)⟩
theorem pe_mk (c : Mak X.prog X.w X.K X.mg X.base k x C sp dvs) (hr : Room j X.A) (hk : k + 1 ≤ j) (hg : Gl X x) (ha : PA X (e :: es) t)
    (hdb : (x == ("__debug__" : Str)) = false := by decide) (he : starEach (e :: es) X.env = (false, eval e X.env) :: starEach es X.env := by rfl) (hpl : (backTo pos (starEach es X.env)).any (·.1) = false := by rfl) :
    PE X (.Call (.Name x p) (e :: es) [] pos) (tMake C sp dvs E0 t) := by
  obtain ⟨f, fd, ps, ds, M, F, hm, b, d⟩ := c.ex
  exact pe_make M F (hr.mono hk) hg hm b d pass0 ha hdb he hpl
theorem pe_mt {pl : Sem Bool} (c : Met X.prog X.w X.K X.mg X.base k C m sp dvs) (hr : Room j X.A) (hk : k ≤ j) (he : PE X o ta) (ha : PA X (e :: es) t)
    (hst : starEach (e :: es) X.env = (false, eval e X.env) :: starEach es X.env := by rfl) (hpl : (backTo pos (starEach es X.env)).any (·.1) = false := by rfl)
    (ht : eval (.Call (.Attribute o m apos) (e :: es) [] pos) X.env = (do
      let ov ← eval o X.env
      standAt apos.atName
      let (f, first) ← holding [ov] (getMethod ov m pl)
      callWith pos f first (backTo pos (starEach (e :: es) X.env)) (backToKw pos (keywordEach [] X.env))) := by rfl) :
    PE X (.Call (.Attribute o m apos) (e :: es) [] pos) (tMeth C m sp dvs E0 ta t) := by
  obtain ⟨f, fd, ps, ds, cl, hm, F, b, d⟩ := c.ex
  exact pe_meth (pl := pl) he cl hm F (hr.mono hk) b d pass0 ha hst hpl ht
theorem pe_mt0 {pl : Sem Bool} (c : Met X.prog X.w X.K X.mg X.base k C m sp dvs) (hr : Room j X.A) (hk : k ≤ j) (he : PE X o ta)
    (ht : eval (.Call (.Attribute o m apos) [] [] pos) X.env = (do
      let ov ← eval o X.env
      standAt apos.atName
      let (f, first) ← holding [ov] (getMethod ov m pl)
      callWith pos f first (backTo pos (starEach [] X.env)) (backToKw pos (keywordEach [] X.env))) := by rfl) :
    PE X (.Call (.Attribute o m apos) [] [] pos) (tMeth C m sp dvs E0 ta tNil) := by
  obtain ⟨f, fd, ps, ds, cl, hm, F, b, d⟩ := c.ex
  exact pe_meth0 (pl := pl) he cl hm F (hr.mono hk) b d pass0 ht
end
/-- data in, a result out -/
def spD (K : PySem.W.Frag) (S : List D → Res → Prop) : Sp := fun vs H Q _ => ∃ ds r Hs, S ds r ∧ Ex Hs H ∧ Dens K Hs vs ds ∧ ∀ w Hs' H', Gr H H' Hs Hs' → RetOk K H Hs' H' w r → Q w H'
/-- all but what stands at a has stayed -/
structure GrA (a : Addr) (H H' Hs Hs' : Hp) : Prop where
  ex : ∀ b o, b ≠ a → H b = some o → H' b = some o
  st : Ex Hs' H'
  s : Ex Hs Hs'
  nw : ∀ b o, H b = some o → Hs b = none → Hs' b = none
/-- the first argument owned: its content ahead and behind -/
def spIO (K : PySem.W.Frag) (T : D → List D → Res → D → Prop) : Sp := fun vs H Q _ => ∃ a vr c ds r c' Hs, vs = .ref a :: vr ∧ T c ds r c' ∧ Ex Hs H ∧ Hs a = none ∧ OwnAt K Hs H a c ∧ Dens K Hs vr ds ∧
  ∀ w Hs' H', GrA a H H' Hs Hs' → OwnAt K Hs' H' a c' → RetOk K H Hs' H' w r → Q w H'
def rho0 (N : List Str) (ds : List D) : Rho := ds.map Sl.val ++ List.replicate (N.length - ds.length) Sl.non
def kRet (r : Res) : Kn := { nx := fun _ => r = .val .non, rt := fun r' _ => r' = r }
def kIO (r : Res) (c : D) : Kn := { nx := fun ρ' => r = .val .non ∧ ρ'[0]? = some (.own c), rt := fun r' ρ' => r' = r ∧ ρ'[0]? = some (.own c) }
section
variable {K : PySem.W.Frag}
theorem rho_start_len {N : List Str} {vs : List V} {ds : List D} (h : vs.length = ds.length) : (rho0 N ds).length = (L2.start N vs).length := by
  unfold rho0 L2.start
  simp only [List.length_append, List.length_map, List.length_replicate, h]
theorem rho0_val {N : List Str} {ds : List D} {i : Nat} {d : D} (h : (rho0 N ds)[i]? = some (.val d)) : ds[i]? = some d := by
  unfold rho0 at h
  by_cases hl : i < ds.length
  · rw [List.getElem?_append_left (by rw [List.length_map]; exact hl), List.getElem?_map] at h
    cases q : ds[i]? with
    | none => rw [q] at h; cases h
    | some e =>
      rw [q] at h
      cases h
      rfl
  · rw [List.getElem?_append_right (by rw [List.length_map]; omega), List.getElem?_replicate] at h
    split at h <;> cases h
theorem rho0_own {N : List Str} {ds : List D} {i : Nat} {d : D} (h : (rho0 N ds)[i]? = some (.own d)) : False := by
  unfold rho0 at h
  by_cases hl : i < ds.length
  · rw [List.getElem?_append_left (by rw [List.length_map]; exact hl), List.getElem?_map] at h
    cases q : ds[i]? with
    | none => rw [q] at h; cases h
    | some e =>
      rw [q] at h
      cases h
  · rw [List.getElem?_append_right (by rw [List.length_map]; omega), List.getElem?_replicate] at h
    split at h <;> cases h
theorem start_some {N : List Str} {vs : List V} {i : Nat} {v : V} (h : vs[i]? = some v) : (L2.start N vs)[i]? = some (some v) := by
  unfold L2.start
  have hl := (List.getElem?_eq_some_iff.mp h).1
  rw [List.getElem?_append_left (by rw [List.length_map]; exact hl), List.getElem?_map, h]
  rfl
theorem env_start {N : List Str} {vs : List V} {ds : List D} {H Hs : Hp} (e : Ex Hs H) (h : Dens K Hs vs ds) : EnvOk K none (rho0 N ds) (L2.start N vs) H Hs H :=
  ⟨Ex.refl _, e, rho_start_len h.length, fun i d q => by
    obtain ⟨v, h1, h2⟩ := h.get (rho0_val q)
    exact ⟨v, start_some h1, h2⟩, fun i d q => (rho0_own q).elim, fun i j d e a q => (rho0_own q).elim, fun a q => by cases q⟩
end
section
variable {P : Program} {w : World} {K : PySem.W.Frag} {mg : Str → Option Value} {base : Heap} {x qual : Str} {st : Stmt} {f : Addr} {fd : FuncData} {N ps : List Str} {k : Nat} {gd : Bool}
/-- a def's promise, by its body -/
theorem fnD {S : List D → Res → Prop} (F : FunG K x qual st f fd) (Sc : FnScope N ps (defScope st)) (hl : ∀ ds r, S ds r → ds.length = ps.length)
    (hb : ∀ (cdv : Value) (A : Around) (outer : List Env) (s : Shared) (H : Hp), Room k (A.deeper (envOfC qual (defScope st) s.heap.objs.size f cdv)) → (gd = true → A.guards = some []) → ∀ ds r, S ds r →
      PSD (cxOf CX0 P w K mg base N qual (defScope st) f cdv A outer s H E0).nox false (defBody st) (rho0 N ds) (kRet r)) : FnB gd P w K mg base (k + 1) f fd ps (spD K S) := by
  refine fnB_of F Sc (fun vs H Q ⟨ds, r, Hs, h, e, dn, _⟩ => dn.length.trans (hl ds r h)) (fun cdv A outer s H vs Q hr hG ⟨ds, r, Hs, h, e, dn, q⟩ => ?_)
  refine ⟨_, hb cdv A outer s H hr hG ds r h, none, H, Hs, fun _ => rfl, env_start e dn, fun ρ' σ' Hs' H' n E' g => ?_, fun r' ρ' v σ' Hs' H' n E' g z => ?_, fun _ _ _ _ z => False.elim z, fun _ _ _ _ z => False.elim z⟩
  · have n : r = .val .non := n
    subst n
    exact q _ Hs' H' ⟨E'.fr, E'.st, g.ex, g.nw⟩ (.non)
  · have n : r' = r := n
    subst n
    refine q v Hs' H' ⟨E'.fr, E'.st, g.ex, g.nw⟩ ?_
    cases r' with
    | val d => exact z
    | own d =>
      obtain ⟨p, rfl, h1, h2, h3, h4⟩ := z
      exact ⟨p, rfl, h3, h2, h1⟩
noncomputable def less (H : Hp) (a : Addr) : Hp := fun b => if b = a then none else H b
theorem less_ne {H : Hp} {a b : Addr} (h : b ≠ a) : less H a b = H b := by unfold less; rw [if_neg h]
theorem less_at {H : Hp} {a : Addr} : less H a a = none := by unfold less; rw [if_pos rfl]
theorem less_some {H : Hp} {a b : Addr} {o : HO} (h : less H a b = some o) : b ≠ a ∧ H b = some o := by
  by_cases e : b = a
  · subst e; rw [less_at] at h; cases h
  · rw [less_ne e] at h; exact ⟨e, h⟩
theorem fnIO {T : D → List D → Res → D → Prop} (F : FunG K x qual st f fd) (Sc : FnScope N ps (defScope st)) (hl : ∀ c ds r c', T c ds r c' → ds.length + 1 = ps.length)
    (hb : ∀ (cdv : Value) (A : Around) (outer : List Env) (s : Shared) (H : Hp), Room k (A.deeper (envOfC qual (defScope st) s.heap.objs.size f cdv)) → (gd = true → A.guards = some []) → ∀ c ds r c', T c ds r c' →
      PSD (cxOf CX0 P w K mg base N qual (defScope st) f cdv A outer s H E0).nox true (defBody st) (.own c :: rho0 N.tail ds) (kIO r c')) : FnB gd P w K mg base (k + 1) f fd ps (spIO K T) := by
  have hN : ∃ n0 nr, N = n0 :: nr ∨ ∀ c ds r c', ¬ T c ds r c' := by
    cases N with
    | nil =>
      refine ⟨"", [], .inr fun c ds r c' t => ?_⟩
      have z := Sc.pre
      rw [List.take_nil] at z
      have y := hl c ds r c' t
      rw [← z] at y
      simp at y
    | cons n0 nr => exact ⟨n0, nr, .inl rfl⟩
  refine fnB_of F Sc (fun vs H Q ⟨a, vr, c, ds, r, c', Hs, ev, h, e, na, oa, dn, _⟩ => by rw [ev, List.length_cons, dn.length]; exact hl c ds r c' h) (fun cdv A outer s H vs Q hr hG ⟨a, vr, c, ds, r, c', Hs, ev, h, e, na, oa, dn, q⟩ => ?_)
  obtain ⟨n0, nr, hN⟩ := hN
  rcases hN with hN | hN
  · subst ev
    have E0 : EnvOk K (some a) (.own c :: rho0 N.tail ds) (L2.start N (.ref a :: vr)) (less H a) Hs H := by
      subst hN
      have es : L2.start (n0 :: nr) (V.ref a :: vr) = some (V.ref a) :: L2.start nr vr := by
        unfold L2.start
        simp only [List.map_cons, List.length_cons, List.cons_append]
        rw [Nat.add_sub_add_right]
      rw [es]
      have own0 : ∀ (i : Nat) (d : D), (Sl.own c :: rho0 nr ds)[i]? = some (.own d) → i = 0 ∧ c = d := fun i d z => by
        cases i with
        | zero =>
          rw [List.getElem?_cons_zero] at z
          cases z
          exact ⟨rfl, rfl⟩
        | succ i =>
          rw [List.getElem?_cons_succ] at z
          exact (rho0_own z).elim
      refine ⟨fun b o z => (less_some z).2, e, ?_, fun i d z => ?_, fun i d z => ?_, fun i j d d' b z1 z2 _ _ => (own0 i d z1).1.trans (own0 j d' z2).1.symm, fun b z => by cases z; rfl⟩
      · show (rho0 nr ds).length + 1 = (L2.start nr vr).length + 1
        rw [rho_start_len dn.length]
      · cases i with
        | zero =>
          rw [List.getElem?_cons_zero] at z
          cases z
        | succ i =>
          have z : (Sl.own c :: rho0 nr ds)[i + 1]? = some (.val d) := z
          rw [List.getElem?_cons_succ] at z
          obtain ⟨v, h1, h2⟩ := dn.get (rho0_val z)
          exact ⟨v, by rw [List.getElem?_cons_succ]; exact start_some h1, h2⟩
      · obtain ⟨z1, z2⟩ := own0 i d z
        subst z1 z2
        exact ⟨a, rfl, oa, na, less_at⟩
    have last : ∀ {ρ' : Rho} {σ' : L2.St} {Hs' H' : Hp}, ρ'[0]? = some (.own c') → EnvOk K (some a) ρ' σ' (less H a) Hs' H' → ExF (less H a) Hs Hs' → GrA a H H' Hs Hs' ∧ OwnAt K Hs' H' a c' := fun {ρ' σ' Hs' H'} z E' g => by
      obtain ⟨b, h1, h2, h3, h4⟩ := E'.own 0 c' z
      have h5 := E'.io a rfl
      rw [h1] at h5
      cases h5
      refine ⟨⟨fun b o nb z => E'.fr b o (by rw [less_ne nb]; exact z), E'.st, g.ex, fun b o z n => ?_⟩, h2⟩
      by_cases hb : b = a
      · subst hb; exact h3
      · exact g.nw b o (by rw [less_ne hb]; exact z) n
    refine ⟨_, hb cdv A outer s H hr hG c ds r c' h, some a, less H a, Hs, (fun z => Bool.noConfusion z), E0, fun ρ' σ' Hs' H' n E' g => ?_, fun r' ρ' v σ' Hs' H' n E' g z => ?_, fun _ _ _ _ z => False.elim z, fun _ _ _ _ z => False.elim z⟩
    · have n : r = .val .non ∧ ρ'[0]? = some (.own c') := n
      obtain ⟨n, z⟩ := n
      subst n
      obtain ⟨g1, g2⟩ := last z E' g
      exact q _ Hs' H' g1 g2 .non
    · have n : r' = r ∧ ρ'[0]? = some (.own c') := n
      obtain ⟨n, y⟩ := n
      subst n
      obtain ⟨g1, g2⟩ := last y E' g
      refine q v Hs' H' g1 g2 ?_
      cases r' with
      | val d => exact z
      | own d =>
        obtain ⟨p, rfl, h1, h2, h3, h4⟩ := z
        refine ⟨p, rfl, ?_, h2, h1⟩
        have np : p ≠ a := fun e => h4 0 c' y (e ▸ E'.io a rfl)
        rw [less_ne np] at h3
        exact h3
  · exact absurd h (hN c ds r c')
end
/-! ### calls -/
section
variable {X : Cx} {ρ ρ1 ρ2 : Rho} {pos p apos : Pos} {e o : Expr} {es : List Expr} {r : Res} {d c c' : D} {as dds : List D} {dvs : List V} {x m : Str} {C : Addr} {k j : Nat} {S : List D → Res → Prop} {T : D → List D → Res → D → Prop} {gd : Bool}
theorem dens_int1 {K : PySem.W.Frag} (i : Int) (H : Hp) : Dens K H [.int i] [.int i] := .cons (.int i) .nil
/-- f(e, ..) -/
theorem pd_call (c : Cal gd X.prog X.w X.K X.mg X.base k x (spD X.K S) dvs) (hr : Room j X.A) (ha : PAD X (e :: es) ρ as ρ1) (hS : S (as ++ dds) r) (hdv : ∀ H, Dens X.K H dvs dds := by exact fun _ => .nil) (nog : gd = true → X.A.guards = some [] := by first | exact fun z => Bool.noConfusion z | assumption) (hk : k ≤ j := by decide) (hg : Gl X x := by rfl)
    (hdb : (x == ("__debug__" : Str)) = false := by decide) (he : starEach (e :: es) X.env = (false, eval e X.env) :: starEach es X.env := by rfl) (hpl : (backTo pos (starEach es X.env)).any (·.1) = false := by rfl) : PD X (.Call (.Name x p) (e :: es) [] pos) ρ r ρ1 :=
  pe_imp (pe_c c hr nog hk hg ha hdb he hpl) fun σ H Q ⟨io, Hf, Hs, E, kk⟩ => ⟨io, Hf, Hs, E, fun vs Hs1 H1 E1 f1 q1 => ⟨as ++ dds, r, Hs1, hS, E1.st, q1.append (hdv _), fun w Hs2 H2 g q => by
    obtain ⟨E2, f2⟩ := E1.gr g
    exact kk w Hs2 H2 E2 (f1.trans f2) (E1.ret q)⟩⟩
/-- f() -/
theorem pd_call0 (c : Cal gd X.prog X.w X.K X.mg X.base k x (spD X.K S) dvs) (hr : Room j X.A) (hS : S dds r) (hdv : ∀ H, Dens X.K H dvs dds := by exact fun _ => .nil) (nog : gd = true → X.A.guards = some [] := by first | exact fun z => Bool.noConfusion z | assumption) (hk : k ≤ j := by decide) (hg : Gl X x := by rfl)
    (hdb : (x == ("__debug__" : Str)) = false := by decide) : PD X (.Call (.Name x p) [] [] pos) ρ r ρ :=
  pe_imp (pe_c0 c hr nog hk hg hdb) fun σ H Q ⟨io, Hf, Hs, E, kk⟩ => ⟨dds, r, Hs, hS, E.st, hdv _, fun w Hs2 H2 g q => by
    obtain ⟨E2, f2⟩ := E.gr g
    exact kk w Hs2 H2 E2 f2 (E.ret q)⟩
/-- o.m(e, ..) -/
theorem pd_meth {fs : List (Str × D)} {pl : Sem Bool} (c : Met X.prog X.w X.K X.mg X.base k C m (spD X.K S) dvs) (hr : Room j X.A) (ho : PD X o ρ (.val (.obj C fs)) ρ1) (hn : fs.lookup m = none) (ha : PAD X (e :: es) ρ1 as ρ2) (hS : S (.obj C fs :: (as ++ dds)) r)
    (hdv : ∀ H, Dens X.K H dvs dds := by exact fun _ => .nil) (hk : k ≤ j := by decide) (hst : starEach (e :: es) X.env = (false, eval e X.env) :: starEach es X.env := by rfl) (hpl : (backTo pos (starEach es X.env)).any (·.1) = false := by rfl)
    (ht : eval (.Call (.Attribute o m apos) (e :: es) [] pos) X.env = (do
      let ov ← eval o X.env
      standAt apos.atName
      let (f, first) ← holding [ov] (getMethod ov m pl)
      callWith pos f first (backTo pos (starEach (e :: es) X.env)) (backToKw pos (keywordEach [] X.env))) := by rfl) : PD X (.Call (.Attribute o m apos) (e :: es) [] pos) ρ r ρ2 :=
  pe_imp (pe_mt (pl := pl) c hr hk ho ha hst hpl ht) fun σ H Q ⟨io, Hf, Hs, E, kk⟩ => ⟨io, Hf, Hs, E, fun v Hs1 H1 E1 f1 q1 => by
    have q0 := q1
    cases q1 with
    | @obj a _ dx fv _ h1 h2 =>
      exact ⟨a, dx, fv, rfl, E1.st _ _ h1, h2.nolook hn, io, Hf, Hs1, E1, fun vs Hs2 H2 E2 f2 q2 => ⟨_, r, Hs2, hS, E2.st, .cons (Den.mono f2.ex q0) (q2.append (hdv _)), fun w Hs3 H3 g q => by
        obtain ⟨E3, f3⟩ := E2.gr g
        exact kk w Hs3 H3 E3 ((f1.trans f2).trans f3) (E2.ret q)⟩⟩⟩
/-- o.m() -/
theorem pd_meth0 {fs : List (Str × D)} {pl : Sem Bool} (c : Met X.prog X.w X.K X.mg X.base k C m (spD X.K S) dvs) (hr : Room j X.A) (ho : PD X o ρ (.val (.obj C fs)) ρ1) (hn : fs.lookup m = none) (hS : S (.obj C fs :: dds) r)
    (hdv : ∀ H, Dens X.K H dvs dds := by exact fun _ => .nil) (hk : k ≤ j := by decide)
    (ht : eval (.Call (.Attribute o m apos) [] [] pos) X.env = (do
      let ov ← eval o X.env
      standAt apos.atName
      let (f, first) ← holding [ov] (getMethod ov m pl)
      callWith pos f first (backTo pos (starEach [] X.env)) (backToKw pos (keywordEach [] X.env))) := by rfl) : PD X (.Call (.Attribute o m apos) [] [] pos) ρ r ρ1 :=
  pe_imp (pe_mt0 (pl := pl) c hr hk ho ht) fun σ H Q ⟨io, Hf, Hs, E, kk⟩ => ⟨io, Hf, Hs, E, fun v Hs1 H1 E1 f1 q1 => by
    have q0 := q1
    cases q1 with
    | @obj a _ dx fv _ h1 h2 =>
      exact ⟨a, dx, fv, rfl, E1.st _ _ h1, h2.nolook hn, _, r, Hs1, hS, E1.st, .cons q0 (hdv _), fun w Hs3 H3 g q => by
        obtain ⟨E3, f3⟩ := E1.gr g
        exact kk w Hs3 H3 E3 (f1.trans f3) (E1.ret q)⟩⟩
/-- C(e, ..): a new instance, owned -/
theorem pd_make {fs : List (Str × D)} (c : Mak X.prog X.w X.K X.mg X.base k x C (spIO X.K T) dvs) (hr : Room j X.A) (ha : PAD X (e :: es) ρ as ρ1) (hT : T (.obj C []) (as ++ dds) (.val .non) (.obj C fs)) (hdv : ∀ H, Dens X.K H dvs dds := by exact fun _ => .nil) (hk : k + 1 ≤ j := by decide) (hg : Gl X x := by rfl)
    (hdb : (x == ("__debug__" : Str)) = false := by decide) (he : starEach (e :: es) X.env = (false, eval e X.env) :: starEach es X.env := by rfl) (hpl : (backTo pos (starEach es X.env)).any (·.1) = false := by rfl) : PD X (.Call (.Name x p) (e :: es) [] pos) ρ (.own (.obj C fs)) ρ1 :=
  pe_imp (pe_mk c hr hk hg ha hdb he hpl) fun σ H Q ⟨io, Hf, Hs, E, kk⟩ => ⟨io, Hf, Hs, E, fun vs Hs1 H1 E1 f1 q1 => fun y dx ny ndx nxy => by
    have e1 : Ex H1 (upd (upd H1 dx (.own y)) y (.ins C dx [])) := fun b u z => by
      rw [upd_ne (ne_of_none z ny), upd_ne (ne_of_none z ndx)]
      exact z
    refine ⟨y, _, _, _, _, _, Hs1, rfl, hT, E1.st.trans e1, E1.st.none ny, ⟨dx, [], upd_same, .nil⟩, q1.append (hdv _), fun w Hs2 H2 g o q => ?_⟩
    cases q
    have g1 : Gr H1 H2 Hs1 Hs2 := ⟨fun b u z => g.ex b u (ne_of_none z ny) (e1 b u z), g.st, g.s, fun b u z n => g.nw b u (e1 b u z) n⟩
    obtain ⟨E2, f2⟩ := E1.gr g1
    exact ⟨rfl, kk _ Hs2 H2 E2 (f1.trans f2) (E1.ret (r := .own (.obj C fs)) ⟨y, rfl, ny, g.nw y _ upd_same (E1.st.none ny), o⟩)⟩⟩
/-- an owned slot's object is handed to a def that changes it -/
theorem pd_callIO (i : Nat) {x0 : Str} {p0 : Pos} {c0 : D} (cl : Cal gd X.prog X.w X.K X.mg X.base k x (spIO X.K T) dvs) (hr : Room j X.A) (h0 : ρ[i]? = some (.own c0)) (ha : PAD X es ρ as ρ1) (h1 : ρ1[i]? = some (.own c)) (hT : T c (as ++ dds) r c')
    (hdv : ∀ H, Dens X.K H dvs dds := by exact fun _ => .nil) (nog : gd = true → X.A.guards = some [] := by first | exact fun z => Bool.noConfusion z | assumption) (hk : k ≤ j := by decide) (hg : Gl X x := by rfl) (hN : X.N[i]? = some x0 := by rfl)
    (hv : Vis X.env.scope x0 := by first | exact Or.inl rfl | exact Or.inr (Or.inl rfl) | exact Or.inr (Or.inr rfl)) (hd : (x0 == ("__debug__" : Str)) = false := by decide) (hcd : (x0 == ("__classdict__" : Str)) = false := by decide)
    (hdb : (x == ("__debug__" : Str)) = false := by decide) (he : starEach (.Name x0 p0 :: es) X.env = (false, eval (.Name x0 p0) X.env) :: starEach es X.env := by rfl) (hpl : (backTo pos (starEach es X.env)).any (·.1) = false := by rfl) :
    PD X (.Call (.Name x p) (.Name x0 p0 :: es) [] pos) ρ r (ρ1.set i (.own c')) :=
  pe_imp (pe_c cl hr nog hk hg (pa_cons (pe_var hN hv hd hcd) ha he) hdb he hpl) fun σ H Q ⟨io, Hf, Hs, E, kk⟩ => by
    obtain ⟨a, g1, g2, g3, g4⟩ := E.own i c0 h0
    refine ⟨.ref a, g1, io, Hf, Hs, E, fun vs Hs1 H1 E1 f1 q1 => ?_⟩
    obtain ⟨a', y1, y2, y3, y4⟩ := E1.own i c h1
    rw [g1] at y1
    cases y1
    refine ⟨a, _, _, _, _, _, Hs1, rfl, hT, E1.st, y3, y2, q1.append (hdv _), fun w Hs2 H2 g o q => ?_⟩
    have hl : i < ρ1.length := (List.getElem?_eq_some_iff.mp h1).1
    have nf : ∀ (Z : Hp), Z a = none → Ex Z H1 → Ex Z H2 := fun Z n z b u y => g.ex b u (ne_of_none y n) (z b u y)
    have E2 : EnvOk X.K io (ρ1.set i (.own c')) σ Hf Hs2 H2 := by
      refine ⟨nf _ y4 E1.fr, g.st, by rw [List.length_set]; exact E1.len, fun n d z => ?_, fun n d z => ?_, fun n n' d d' b z1 z2 z3 z4 => ?_, E1.io⟩
      · by_cases hn : i = n
        · subst hn
          rw [List.getElem?_set_self hl] at z
          cases z
        · rw [get_set_ne hn] at z
          obtain ⟨v, w1, w2⟩ := E1.val n d z
          exact ⟨v, w1, w2.mono g.s⟩
      · by_cases hn : i = n
        · subst hn
          rw [List.getElem?_set_self hl] at z
          cases z
          obtain ⟨u, hu⟩ := y2.there
          exact ⟨a, g1, o, g.nw a u hu y3, y4⟩
        · rw [get_set_ne hn] at z
          obtain ⟨b, w1, w2, w3, w4⟩ := E1.own n d z
          have nb : b ≠ a := fun e => by
            subst e
            exact hn (E1.sep i n c d b h1 z g1 w1)
          obtain ⟨u, hu⟩ := w2.there
          exact ⟨b, w1, w2.mono g.s fun o' z' => g.ex b o' nb z', g.nw b u hu w3, w4⟩
      · have back : ∀ (n : Nat) (dd : D), (ρ1.set i (Sl.own c'))[n]? = some (Sl.own dd) → ∃ d1, ρ1[n]? = some (Sl.own d1) := fun n dd z => by
          by_cases hn : i = n
          · subst hn; exact ⟨c, h1⟩
          · rw [get_set_ne hn] at z; exact ⟨dd, z⟩
        obtain ⟨e1, w1⟩ := back n d z1
        obtain ⟨e2, w2⟩ := back n' d' z2
        exact E1.sep n n' e1 e2 b w1 w2 z3 z4
    refine kk w Hs2 H2 E2 (f1.trans ⟨g.s, fun b u z n => g.nw b u (E1.fr b u z) n⟩) ?_
    cases r with
    | val d => exact q
    | own d =>
      obtain ⟨pp, rfl, w1, w2, w3⟩ := q
      refine ⟨pp, rfl, w3, w2, E1.fr.none w1, fun n e z y => ?_⟩
      have : ∃ b, σ[n]? = some (some (V.ref b)) ∧ ∃ u, H1 b = some u := by
        by_cases hn : i = n
        · subst hn; exact ⟨a, g1, y2.there⟩
        · rw [get_set_ne hn] at z
          obtain ⟨b, v1, v2, _⟩ := E1.own n e z
          exact ⟨b, v1, v2.there⟩
      obtain ⟨b, v1, u, v2⟩ := this
      rw [v1] at y
      cases y
      rw [w1] at v2
      cases v2
/-- a new object is handed to a def that changes it; nothing else is handed -/
theorem pd_callT {a0 : Expr} (cl : Cal gd X.prog X.w X.K X.mg X.base k x (spIO X.K T) dvs) (hr : Room j X.A) (ha : PD X a0 ρ (.own c) ρ1) (hT : T c dds r c')
    (hdv : ∀ H, Dens X.K H dvs dds := by exact fun _ => .nil) (nog : gd = true → X.A.guards = some [] := by first | exact fun z => Bool.noConfusion z | assumption) (hk : k ≤ j := by decide) (hg : Gl X x := by rfl)
    (hdb : (x == ("__debug__" : Str)) = false := by decide) (he : starEach [a0] X.env = (false, eval a0 X.env) :: starEach [] X.env := by rfl) (hpl : (backTo pos (starEach [] X.env)).any (·.1) = false := by rfl) :
    PD X (.Call (.Name x p) [a0] [] pos) ρ r ρ1 :=
  pe_imp (pe_c cl hr nog hk hg (pa_cons ha pa_nil he) hdb he hpl) fun σ H Q ⟨io, Hf, Hs, E, kk⟩ => ⟨io, Hf, Hs, E, fun v Hs1 H1 E1 f1 q1 => by
    obtain ⟨a, rfl, y2, y3, y4, y5⟩ := q1
    refine ⟨a, _, _, _, _, _, Hs1, rfl, hT, E1.st, y3, y2, hdv _, fun w Hs2 H2 g o q => ?_⟩
    have E2 : EnvOk X.K io ρ1 σ Hf Hs2 H2 := by
      refine ⟨fun b u z => g.ex b u (ne_of_none z y4) (E1.fr b u z), g.st, E1.len, fun n d z => ?_, fun n d z => ?_, E1.sep, E1.io⟩
      · obtain ⟨v, w1, w2⟩ := E1.val n d z
        exact ⟨v, w1, w2.mono g.s⟩
      · obtain ⟨b, w1, w2, w3, w4⟩ := E1.own n d z
        have nb : b ≠ a := fun e => y5 n d z (e ▸ w1)
        obtain ⟨u, hu⟩ := w2.there
        exact ⟨b, w1, w2.mono g.s fun o' z' => g.ex b o' nb z', g.nw b u hu w3, w4⟩
    refine kk w Hs2 H2 E2 (f1.trans ⟨g.s, fun b u z n => g.nw b u (E1.fr b u z) n⟩) ?_
    cases r with
    | val d => exact q
    | own d =>
      obtain ⟨pp, rfl, w1, w2, w3⟩ := q
      exact ⟨pp, rfl, w3, w2, E1.fr.none w1, E1.noOwn w1⟩⟩
end
/-- self.f = e, self an owned instance -/
theorem ps1_fld {X : Cx} {bi : Bool} {ρ ρ1 : Rho} {k : Kn} {pos p : Pos} {e : Expr} {d : D} (i : Nat) {x f : Str} {C : Addr} {fs : List (Str × D)} (cl : Cls X.K C) (n : NoAttr X.K C f) (he : PD X e ρ (.val d) ρ1) (h1 : ρ1[i]? = some (.own (.obj C fs)) := by rfl) (hz : fs.length < 1000 := by first | decide | exact Nat.le_of_ble_eq_true rfl)
    (hk : k.nx (ρ1.set i (.own (.obj C (putD f d fs)))) := by rfl) (hN : X.N[i]? = some x := by rfl)
    (hv : Vis X.env.scope x := by first | exact Or.inl rfl | exact Or.inr (Or.inl rfl) | exact Or.inr (Or.inr rfl)) {pos' : Pos} (hs : swapsWith e (some (.Attribute (.Name x p) f pos')) pos.line X.env = pure false := by rfl) (hd : (x == ("__debug__" : Str)) = false := by decide) (hcd : (x == ("__classdict__" : Str)) = false := by decide) :
    PS1 X bi (.Assign [.Attribute (.Name x p) f pos'] e pos) ρ k :=
  ps_imp (ps_fld (pe_var hN hv hd hcd) he hs) fun Z σ H ⟨io, Hf, Hs, hb, E, kk⟩ => ⟨io, Hf, Hs, E, fun v Hs1 H1 E1 f1 q1 => by
    obtain ⟨a, g1, g2, g3, g4⟩ := E1.own i _ h1
    obtain ⟨dx, gs, y1, y2⟩ := g2
    exact ⟨_, g1, a, C, dx, gs, rfl, y1, cl, n, by rw [y2.length]; exact hz, kk.nx _ _ Hs1 _ hk (E1.change h1 g1 ⟨dx, _, upd_same, y2.put q1⟩) f1⟩⟩
end Dn
end
section
set_option Elab.async false
set_option linter.all false
set_option maxRecDepth 100000
set_option maxHeartbeats 2000000
/-! DLoop: targets, for, while, comprehensions over data. -/
namespace Dn
open PySem PySem.Spec L2
/-! ### targets -/
def Out (ts : List Nat) (σ σ' : L2.St) : Prop := σ'.length = σ.length ∧ ∀ j, j ∉ ts → σ'[j]? = σ[j]?
theorem Out.refl {ts : List Nat} {σ : L2.St} : Out ts σ σ := ⟨rfl, fun _ _ => rfl⟩
theorem Out.trans {ts us : List Nat} {σ σ1 σ2 : L2.St} (a : Out ts σ σ1) (b : Out us σ1 σ2) : Out (ts ++ us) σ σ2 :=
  ⟨b.1.trans a.1, fun j h => (b.2 j fun z => h (List.mem_append_right _ z)).trans (a.2 j fun z => h (List.mem_append_left _ z))⟩
/-- d stored at ρ gives ρ' -/
def rdG (K : PySem.W.Frag) (bi : Bool) (ts : List Nat) (f : D → Rho → Rho → Prop) : TG := fun v σ H Q => ∃ io Hf Hs ρ ρ' d, (bi = false → io = none) ∧ EnvOk K io ρ σ Hf Hs H ∧ Den K Hs v d ∧ f d ρ ρ' ∧ ∀ σ' H', EnvOk K io ρ' σ' Hf Hs H' → Out ts σ σ' → Q σ' H'
def rdGs (K : PySem.W.Frag) (bi : Bool) (ts : List Nat) (f : List D → Rho → Rho → Prop) : TGs := fun vs σ H Q => ∃ io Hf Hs ρ ρ' ds, (bi = false → io = none) ∧ EnvOk K io ρ σ Hf Hs H ∧ Dens K Hs vs ds ∧ f ds ρ ρ' ∧ ∀ σ' H', EnvOk K io ρ' σ' Hf Hs H' → Out ts σ σ' → Q σ' H'
def PGD (X : Cx) (bi : Bool) (tg : Expr) (ts : List Nat) (f : D → Rho → Rho → Prop) : Prop := PG X tg (rdG X.K bi ts f)
def PGsD (X : Cx) (bi : Bool) (tgs : List Expr) (ts : List Nat) (f : List D → Rho → Rho → Prop) : Prop := PGs X tgs (rdGs X.K bi ts f)
def tgName (i : Nat) : D → Rho → Rho → Prop := fun d ρ ρ' => ρ' = ρ.set i (.val d)
def tgNil : List D → Rho → Rho → Prop := fun ds ρ ρ' => ds = [] ∧ ρ' = ρ
def tgCons (f : D → Rho → Rho → Prop) (g : List D → Rho → Rho → Prop) : List D → Rho → Rho → Prop := fun ds ρ ρ' => ∃ d r ρ1, ds = d :: r ∧ f d ρ ρ1 ∧ g r ρ1 ρ'
def tgTup (f : List D → Rho → Rho → Prop) (n : Nat) : D → Rho → Rho → Prop := fun d ρ ρ' => ∃ ds, (d = .tup ds ∨ d = .tupK ds) ∧ ds.length = n ∧ f ds ρ ρ'
/-- xs[k] = d, xs owned, k written -/
def tgSub (i : Nat) (k : Int) : D → Rho → Rho → Prop := fun d ρ ρ' => ∃ ds j, ρ[i]? = some (.own (.lst ds)) ∧ ixN ds.length k = some j ∧ ρ' = ρ.set i (.own (.lst (ds.set j d)))
section
variable {X : Cx} {bi : Bool} {pos : Pos} {tg : Expr} {tgs : List Expr} {ts us : List Nat} {f : D → Rho → Rho → Prop} {g : List D → Rho → Rho → Prop}
theorem pg_imp {t t' : TG} (h : PG X tg t) (i : ∀ v σ H Q, t' v σ H Q → t v σ H Q) : PG X tg t' := ⟨fun pins s σ H v u Q I r q => h.run pins s σ H v u Q I r (i v σ H Q q)⟩
theorem pgs_imp {t t' : TGs} (h : PGs X tgs t) (i : ∀ v σ H Q, t' v σ H Q → t v σ H Q) : PGs X tgs t' := ⟨fun pins s σ H v u Q I r q => h.run pins s σ H v u Q I r (i v σ H Q q)⟩
theorem pgd_name (i : Nat) {x : Str} (hN : X.N.Nodup) (hi : X.N[i]? = some x := by rfl) (hx : Loc X.env.scope x := by first | exact Or.inl rfl | exact Or.inr rfl) (hio : i ≠ 0 ∨ bi = false := by first | exact Or.inl (by decide) | exact Or.inr rfl)
    (hf : X.fn x = true ∨ X.env.scope.names.lookup x = some .local := by first | exact .inl rfl | exact .inr rfl) : PGD X bi (.Name x pos) [i] (tgName i) :=
  pg_imp (pg_name hN hi hx hf) fun v σ H Q ⟨io, Hf, Hs, ρ, ρ', d, hb, E, h, hf, k⟩ => by
    have hf : ρ' = ρ.set i (.val d) := hf
    subst hf
    exact k _ _ (E.setv h (hio.imp_right hb)) ⟨List.length_set, fun j hj => get_set_ne fun e => hj (by rw [e]; simp)⟩
theorem pgd_nil : PGsD X bi [] [] tgNil := pgs_imp pgs_nil fun vs σ H Q ⟨io, Hf, Hs, ρ, ρ', ds, hb, E, h, ⟨h1, h2⟩, k⟩ => by
  subst h1 h2
  cases h
  exact ⟨rfl, k _ _ E Out.refl⟩
theorem pgd_cons (h1 : PGD X bi tg ts f) (h2 : PGsD X bi tgs us g) (hs : (assignEach (tg :: tgs) X.env).map (·.2) = assign tg X.env :: (assignEach tgs X.env).map (·.2) := by rfl) : PGsD X bi (tg :: tgs) (ts ++ us) (tgCons f g) :=
  pgs_imp (pgs_cons h1 h2 hs) fun vs σ H Q ⟨io, Hf, Hs, ρ, ρ', ds, hb, E, h, ⟨d, r, ρ1, e, hf, hg⟩, k⟩ => by
    subst e
    cases h with
    | cons a b => exact ⟨_, _, rfl, io, Hf, Hs, ρ, ρ1, d, hb, E, a, hf, fun σ1 H1 E1 o1 => ⟨io, Hf, Hs, ρ1, ρ', r, hb, E1, b, hg, fun σ2 H2 E2 o2 => k σ2 H2 E2 (o1.trans o2)⟩⟩
theorem pgd_tup {k n : Nat} (hc : X.calm = true) (h : PGsD X bi tgs ts g) (hn : (assignEach tgs X.env).length = n := by rfl) (hst : (assignEach tgs X.env).findIdx? (·.1) = none := by rfl) : PGD X bi (.Tuple tgs k pos) ts (tgTup g n) :=
  pg_imp (pg_tup hc h hn hst) fun v σ H Q ⟨io, Hf, Hs, ρ, ρ', d, hb, E, h, ⟨ds, e, hl, hg⟩, k⟩ => by
    obtain ⟨a, vs, rfl, q1, q2⟩ := Den.seqT (K := X.K) (H := Hs) (v := v) (ds := ds) (by rcases e with e | e; (subst e; exact .inl h); (subst e; exact .inr h))
    exact ⟨a, vs, rfl, ex_t E.st q1, q2.length.trans hl, io, Hf, Hs, ρ, ρ', ds, hb, E, q2, hg, k⟩
theorem pgd_subC (i : Nat) {x : Str} {p p2 : Pos} {k : Int} {m : Nat} (hN : X.N[i]? = some x := by rfl) (hv : Vis X.env.scope x := by first | exact Or.inl rfl | exact Or.inr (Or.inl rfl) | exact Or.inr (Or.inr rfl))
    (hd : (x == ("__debug__" : Str)) = false := by decide) (hcd : (x == ("__classdict__" : Str)) = false := by decide)
    (ha : ∀ v, assign (.Subscript (.Name x p) (.Constant (.int k) m p2) pos) X.env v = (do
      let ov ← holding [v] (eval (.Name x p) X.env)
      let iv ← holding [v, ov] (eval (.Constant (.int k) m p2) X.env)
      standAt pos
      holding [v, ov, iv] (setItem ov iv v)
      release [v, ov, iv] []) := by intro _; rfl) : PGD X bi (.Subscript (.Name x p) (.Constant (.int k) m p2) pos) [] (tgSub i k) :=
  pg_imp (pg_sub (pe_var hN hv hd hcd) pe_int set_list ha) fun v σ H Q ⟨io, Hf, Hs, ρ, ρ', d, hb, E, h, ⟨ds, j, h1, h2, h3⟩, kk⟩ => by
    obtain ⟨a, g1, ⟨vs, y1, y2⟩, g3, g4⟩ := E.own i _ h1
    subst h3
    exact ⟨_, g1, a, vs, k, j, rfl, rfl, y1, by rw [y2.length]; exact h2, kk _ _ (E.change h1 g1 ⟨_, upd_same, y2.set j h⟩) Out.refl⟩
theorem ps1_asg {ρ ρ1 ρ2 : Rho} {k : Kn} {e : Expr} {d : D} (he : PD X e ρ (.val d) ρ1) (hg : PGD X bi tg ts f) (hf : f d ρ1 ρ2) (hk : k.nx ρ2 := by rfl) (hs : swapsWithSole [tg] e pos.line X.env = pure false := by rfl) (hw : swappedStores [tg] e X.env = pure none := by rfl)
    (h1 : (assignEach [tg] X.env).map (·.2) = [assign tg X.env] := by rfl) : PS1 X bi (.Assign [tg] e pos) ρ k :=
  ps_imp (ps_asg he hg hs hw h1) fun Z σ H ⟨io, Hf, Hs, hb, E, kk⟩ => ⟨io, Hf, Hs, E, fun v Hs1 H1 E1 f1 q1 => ⟨io, Hf, Hs1, ρ1, ρ2, d, hb, E1, q1, hf, fun σ2 H2 E2 _ => kk.nx _ _ Hs1 H2 hk E2 f1⟩⟩
/-- xs[i] = e, xs owned, any int -/
theorem ps1_sub {ρ ρ1 ρ2 : Rho} {k : Kn} {e ix : Expr} {d : D} (i : Nat) {x : Str} {p pt : Pos} {ds : List D} {z : Int} {j : Nat} (he : PD X e ρ (.val d) ρ1) (hi : PD X ix ρ1 (.val (.int z)) ρ2) (h0 : ∃ d0, ρ1[i]? = some (.own d0) := by exact ⟨_, rfl⟩) (h1 : ρ2[i]? = some (.own (.lst ds)) := by rfl) (hj : ixN ds.length z = some j)
    (hk : k.nx (ρ2.set i (.own (.lst (ds.set j d)))) := by rfl) (hN : X.N[i]? = some x := by rfl) (hv : Vis X.env.scope x := by first | exact Or.inl rfl | exact Or.inr (Or.inl rfl) | exact Or.inr (Or.inr rfl))
    (hd : (x == ("__debug__" : Str)) = false := by decide) (hcd : (x == ("__classdict__" : Str)) = false := by decide) (hs : swapsWithSole [.Subscript (.Name x p) ix pt] e pos.line X.env = pure false := by rfl) (hw : swappedStores [.Subscript (.Name x p) ix pt] e X.env = pure none := by rfl)
    (ha : ∀ v, assign (.Subscript (.Name x p) ix pt) X.env v = (do
      let ov ← holding [v] (eval (.Name x p) X.env)
      let iv ← holding [v, ov] (eval ix X.env)
      standAt pt
      holding [v, ov, iv] (setItem ov iv v)
      release [v, ov, iv] []) := by intro _; rfl) (hm : (assignEach [.Subscript (.Name x p) ix pt] X.env).map (·.2) = [assign (.Subscript (.Name x p) ix pt) X.env] := by rfl) : PS1 X bi (.Assign [.Subscript (.Name x p) ix pt] e pos) ρ k :=
  ps_imp (ps_asg he (pg_sub (pe_var hN hv hd hcd) hi set_list ha) hs hw hm) fun Z σ H ⟨io, Hf, Hs, hb, E, kk⟩ => ⟨io, Hf, Hs, E, fun v Hs1 H1 E1 f1 q1 => by
    obtain ⟨d0, h0⟩ := h0
    obtain ⟨a, g1, _⟩ := E1.own i _ h0
    refine ⟨_, g1, io, Hf, Hs1, E1, fun w Hs2 H2 E2 f2 q2 => ?_⟩
    obtain ⟨a', g1', ⟨vs, y1, y2⟩, g3, g4⟩ := E2.own i _ h1
    rw [g1] at g1'
    cases g1'
    cases q2
    exact ⟨a, vs, z, j, rfl, rfl, y1, by rw [y2.length]; exact hj, kk.nx _ _ Hs2 _ hk (E2.change h1 g1 ⟨_, upd_same, y2.set j (Den.mono f2.ex q1)⟩) (f1.trans f2)⟩⟩
end
/-! ### what is walked -/
abbrev YD (K : PySem.W.Frag) (xs : List D) (Hz : Hp) : Nat → Hp → V → Hp → Prop := fun i H v H' => ∃ d, xs[i]? = some d ∧ ∀ Hs, Ex Hz Hs → Ex Hs H → ∃ Hs2, Gr H H' Hs Hs2 ∧ Den K Hs2 v d
def WalkD (K : PySem.W.Frag) (J : It) (xs : List D) (Hz : Hp) : Prop := Walk J xs.length (fun H => Ex Hz H) (YD K xs Hz)
def rdI (K : PySem.W.Frag) (ρ : Rho) (xs : List D) (ρ' : Rho) : TI := fun σ H R => ∃ io Hf Hs, EnvOk K io ρ σ Hf Hs H ∧ ∀ J Hs' H', EnvOk K io ρ' σ Hf Hs' H' → ExF Hf Hs Hs' → WalkD K J xs Hs' → R J H'
def PID (X : Cx) (tg iter : Expr) (ρ : Rho) (xs : List D) (ρ' : Rho) : Prop := PI X tg iter (rdI X.K ρ xs ρ')
section
variable {X : Cx} {tg : Expr} {e a b : Expr} {ρ ρ1 ρ2 : Rho} {xs ys : List D} {p pos : Pos}
theorem pi_imp {t t' : TI} (h : PI X tg e t) (i : ∀ σ H Q, t' σ H Q → t σ H Q) : PI X tg e t' := ⟨fun pins s σ H Q I q => h.run pins s σ H Q I (i σ H Q q)⟩
theorem pid_list (h : PD X e ρ (.val (.lst xs)) ρ1) : PID X tg e ρ xs ρ1 := pi_imp (pi_list h) fun σ H Q ⟨io, Hf, Hs, E, k⟩ => ⟨io, Hf, Hs, E, fun v Hs1 H1 E1 f1 q1 => by
  obtain ⟨p, vs, rfl, q2, q3⟩ := Den.seqL (.inl q1)
  refine ⟨p, rfl, ⟨vs, ex_l E1.st q2⟩, k _ Hs1 H1 E1 f1 ?_⟩
  have w := walk_list (K := X.K) (a := p) (xs := vs)
  rw [q3.length] at w
  exact w.mono (fun H h => ex_l h q2) fun i H v H' hi hz y => by
    obtain ⟨e1, e2⟩ := y
    subst e1
    obtain ⟨d, d1, d2⟩ := q3.get' e2
    exact ⟨d, d1, fun Hs' z1 z2 => ⟨Hs', Gr.refl z2, d2.mono z1⟩⟩⟩
theorem pid_listK (h : PD X e ρ (.val (.lstK xs)) ρ1) : PID X tg e ρ xs ρ1 := pi_imp (pi_list h) fun σ H Q ⟨io, Hf, Hs, E, k⟩ => ⟨io, Hf, Hs, E, fun v Hs1 H1 E1 f1 q1 => by
  obtain ⟨p, vs, rfl, q2, q3⟩ := Den.seqL (.inr q1)
  refine ⟨p, rfl, ⟨vs, ex_l E1.st q2⟩, k _ Hs1 H1 E1 f1 ?_⟩
  have w := walk_list (K := X.K) (a := p) (xs := vs)
  rw [q3.length] at w
  exact w.mono (fun H h => ex_l h q2) fun i H v H' hi hz y => by
    obtain ⟨e1, e2⟩ := y
    subst e1
    obtain ⟨d, d1, d2⟩ := q3.get' e2
    exact ⟨d, d1, fun Hs' z1 z2 => ⟨Hs', Gr.refl z2, d2.mono z1⟩⟩⟩
theorem pid_tup (h : PD X e ρ (.val (.tup xs)) ρ1) : PID X tg e ρ xs ρ1 := pi_imp (pi_tup h) fun σ H Q ⟨io, Hf, Hs, E, k⟩ => ⟨io, Hf, Hs, E, fun v Hs1 H1 E1 f1 q1 => by
  obtain ⟨p, vs, rfl, q2, q3⟩ := Den.seqT (.inl q1)
  refine ⟨p, rfl, ⟨vs, ex_t E1.st q2⟩, k _ Hs1 H1 E1 f1 ?_⟩
  have w := walk_tup (K := X.K) (a := p) (xs := vs)
  rw [q3.length] at w
  exact w.mono (fun H h => ex_t h q2) fun i H v H' hi hz y => by
    obtain ⟨e1, e2⟩ := y
    subst e1
    obtain ⟨d, d1, d2⟩ := q3.get' e2
    exact ⟨d, d1, fun Hs' z1 z2 => ⟨Hs', Gr.refl z2, d2.mono z1⟩⟩⟩
/-- the ints lo, lo + 1, .. as data -/
def rng (lo : Int) (n : Nat) : List D := (List.range n).map fun i : Nat => D.int (lo + i)
theorem rng_len {lo : Int} {n : Nat} : (rng lo n).length = n := by unfold rng; rw [List.length_map, List.length_range]
theorem rng_get {lo : Int} {n i : Nat} (h : i < n) : (rng lo n)[i]? = some (D.int (lo + i)) := by
  unfold rng
  rw [List.getElem?_map, List.getElem?_range h]
  rfl
theorem walkd_range {K : PySem.W.Frag} {lo : Int} {n : Nat} {Hz : Hp} : WalkD K (Itr lo n) (rng lo n) Hz := by
  have w := walk_range (lo := lo) (n := n)
  unfold WalkD
  rw [rng_len]
  exact w.mono (fun _ _ => trivial) fun i H v H' hi hz y => by
    obtain ⟨e1, e2⟩ := y
    subst e1 e2
    exact ⟨_, rng_get hi, fun Hs' z1 z2 => ⟨Hs', Gr.refl z2, .int _⟩⟩
theorem pid_range1 {j : Int} (hm : X.mg "range" = none) (ha : PD X a ρ (.val (.int j)) ρ1) (h1 : -(2 ^ 62) ≤ j) (h2 : j < 2 ^ 62) (hg : Gl X "range" := by rfl) (hs : starEach [a] X.env = [(false, eval a X.env)] := by rfl)
    (hs2 : starEach [a] X.env = (false, eval a X.env) :: starEach [] X.env := by rfl) : PID X tg (.Call (.Name "range" p) [a] [] pos) ρ (rng 0 j.toNat) ρ1 :=
  pi_imp (pi_range1 hg hm (pad_cons ha pad_nil hs2) hs) fun σ H Q ⟨io, Hf, Hs, E, k⟩ => ⟨io, Hf, Hs, E, fun vs Hs1 H1 E1 f1 q1 => by
    cases q1 with
    | cons q q' =>
      cases q'
      cases q
      exact ⟨j, rfl, h1, h2, k _ Hs1 H1 E1 f1 walkd_range⟩⟩
theorem pid_range2 {i j : Int} (hm : X.mg "range" = none) (ha : PD X a ρ (.val (.int i)) ρ1) (hb : PD X b ρ1 (.val (.int j)) ρ2) (hz : -(2 ^ 62) ≤ i ∧ i < 2 ^ 62 ∧ -(2 ^ 62) ≤ j ∧ j < 2 ^ 62) (hg : Gl X "range" := by rfl)
    (hs : starEach [a, b] X.env = [(false, eval a X.env), (false, eval b X.env)] := by rfl) (hs2 : starEach [b] X.env = [(false, eval b X.env)] := by rfl)
    (h3 : starEach [a, b] X.env = (false, eval a X.env) :: starEach [b] X.env := by rfl) (h4 : starEach [b] X.env = (false, eval b X.env) :: starEach [] X.env := by rfl) : PID X tg (.Call (.Name "range" p) [a, b] [] pos) ρ (rng i (j - i).toNat) ρ2 :=
  pi_imp (pi_range2 hg hm (pad_cons ha (pad_cons hb pad_nil h4) h3) hs hs2) fun σ H Q ⟨io, Hf, Hs, E, k⟩ => ⟨io, Hf, Hs, E, fun vs Hs1 H1 E1 f1 q1 => by
    cases q1 with
    | cons q q' =>
      cases q' with
      | cons q2 q3 =>
        cases q3
        cases q
        cases q2
        exact ⟨i, j, rfl, hz, k _ Hs1 H1 E1 f1 walkd_range⟩⟩
theorem pairs_walk {K : PySem.W.Frag} {J : It} {n : Nat} {G : Hp → Prop} {xs ys : Nat → Option V} {zs : List D} {Hz : Hp} (w : Walk J n G (YPair xs ys)) (hn : n = zs.length) (hG : ∀ H, Ex Hz H → G H)
    (hy : ∀ i x y, i < n → xs i = some x → ys i = some y → ∃ d d', zs[i]? = some (.tup [d, d']) ∧ Den K Hz x d ∧ Den K Hz y d') : WalkD K J zs Hz := by
  subst hn
  refine w.mono hG fun i H v H' hi hz y => ?_
  obtain ⟨T, x, z, rfl, h2, rfl, h4, h5⟩ := y
  obtain ⟨d, d', e, q1, q2⟩ := hy i x z hi h4 h5
  refine ⟨_, e, fun Hs' z1 z2 => ⟨_, Gr.new z2 h2, .tup upd_same (.cons (q1.mono ?_) (.cons (q2.mono ?_) .nil))⟩⟩
  · exact z1.trans (Ex.new (z2.none h2))
  · exact z1.trans (Ex.new (z2.none h2))
end
/-! ### for -/
abbrev kFor (k : Kn) (Iv : Nat → Rho → Prop) (i : Nat) : Kn := { nx := Iv (i + 1), rt := k.rt, bk := k.nx, ct := Iv (i + 1) }
section
variable {X : Cx} {bi : Bool} {tg iter c : Expr} {body rest : List Stmt} {pos : Pos} {ts : List Nat} {f : D → Rho → Rho → Prop} {ρ ρ1 : Rho} {xs : List D} {k : Kn}
theorem ps1_for (Iv : Nat → Rho → Prop) (hp : PassesOwn (model X.prog X.w) X.A X.env X.xe) (hi : PID X tg iter ρ xs ρ1) (hg : PGD X bi tg ts f) (h0 : Iv 0 ρ1)
    (hb : ∀ i d ρ', xs[i]? = some d → Iv i ρ' → ∃ ρ2, f d ρ' ρ2 ∧ PSD X bi body ρ2 (kFor k Iv i)) (hd : ∀ ρ', Iv xs.length ρ' → k.nx ρ') (hc : X.calm = true := by rfl) (hs : ∀ x, foldedSetIterable iter X.env x = pure x := by intro _; rfl) : PS1 X bi (.For tg iter body [] pos) ρ k := by
  refine ps_imp (ps_for hp hc hi hg (pss_any (tf := fun a : { q : Nat × Rho // PSD X bi body q.2 (kFor k Iv q.1) } => rdS X.K bi a.1.2 (kFor k Iv a.1.1)) fun a => a.2) hs) fun Z σ H ⟨io, Hf, Hs, hio, E, kk⟩ => ⟨io, Hf, Hs, E, fun J Hs1 H1 E1 f1 w => ?_⟩
  refine for_it (g := rdG X.K bi ts f) (tb := fun Z σ H => ∃ a : { q : Nat × Rho // PSD X bi body q.2 (kFor k Iv q.1) }, rdS X.K bi a.1.2 (kFor k Iv a.1.1) Z σ H) (D := Z) w (fun i σ' H' => ∃ ρ' Hs', Iv i ρ' ∧ EnvOk X.K io ρ' σ' Hf Hs' H' ∧ ExF Hf Hs1 Hs') ⟨ρ1, Hs1, h0, E1, ExF.refl⟩ (fun i σ' H' _ ⟨ρ', Hs', _, E', f'⟩ => f'.ex.trans E'.st) ?_ (fun σ' H' ⟨ρ', Hs', iv, E', f'⟩ => kk.nx ρ' σ' Hs' H' (hd ρ' iv) E' (f1.trans f'))
  rintro i v σ' H' H2 hi' ⟨ρ', Hs', iv, E', f'⟩ ⟨d, hd', y⟩
  obtain ⟨Hs2, g, dd⟩ := y Hs' f'.ex E'.st
  obtain ⟨E2, f2⟩ := E'.gr g
  obtain ⟨ρ2, hf, hbody⟩ := hb i d ρ' hd' iv
  refine ⟨io, Hf, Hs2, ρ', ρ2, d, hio, E2, dd, hf, fun σ3 H3 E3 _ => ⟨⟨(i, ρ2), hbody⟩, io, Hf, Hs2, hio, E3, fun ρ4 σ4 Hs4 H4 q E4 f4 => ⟨ρ4, Hs4, q, E4, (f'.trans f2).trans f4⟩, fun r ρ4 w4 σ4 Hs4 H4 q E4 f4 z => ?_, fun ρ4 σ4 Hs4 H4 q E4 f4 => ?_, fun ρ4 σ4 Hs4 H4 q E4 f4 => ⟨ρ4, Hs4, q, E4, (f'.trans f2).trans f4⟩⟩⟩
  · exact kk.rt r ρ4 w4 σ4 Hs4 H4 q E4 (((f1.trans f').trans f2).trans f4) z
  · exact kk.nx ρ4 σ4 Hs4 H4 q E4 (((f1.trans f').trans f2).trans f4)
/-- in a block -/
theorem psd_for (Iv : Nat → Rho → Prop) (hp : PassesOwn (model X.prog X.w) X.A X.env X.xe) (hi : PID X tg iter ρ xs ρ1) (hg : PGD X bi tg ts f) (h0 : Iv 0 ρ1)
    (hb : ∀ i d ρ', xs[i]? = some d → Iv i ρ' → ∃ ρ2, f d ρ' ρ2 ∧ PSD X bi body ρ2 (kFor { k with nx := fun ρ' => PSD X bi rest ρ' k } Iv i)) (hd : ∀ ρ', Iv xs.length ρ' → PSD X bi rest ρ' k) (hc : X.calm = true := by rfl) (hs : ∀ x, foldedSetIterable iter X.env x = pure x := by intro _; rfl) :
    PSD X bi (.For tg iter body [] pos :: rest) ρ k := psd_cons (fun ρ' => PSD X bi rest ρ' k) (ps1_for Iv hp hi hg h0 hb hd hc hs) fun _ h => h
/-! ### while -/
abbrev kWhile (k : Kn) (Iv : Nat → Rho → Prop) (m : Nat) : Kn := { nx := fun ρ' => ∃ m', m' < m ∧ Iv m' ρ', rt := k.rt, bk := k.nx, ct := fun ρ' => ∃ m', m' < m ∧ Iv m' ρ' }
theorem pt_any {α : Type} {tf : α → TT} {e : Expr} (h : ∀ a, PT X e (tf a)) : PT X e (fun σ H Q => ∃ a, tf a σ H Q) := ⟨fun pins s σ H Q I ⟨a, q⟩ => (h a).run pins s σ H Q I q⟩
theorem ps1_while (Iv : Nat → Rho → Prop) (m0 : Nat) (hp : PassesOwn (model X.prog X.w) X.A X.env X.xe) (h0 : Iv m0 ρ)
    (ht : ∀ m ρ', Iv m ρ' → ∃ b ρ2, PTD X c ρ' b ρ2 ∧ (b = true → PSD X bi body ρ2 (kWhile k Iv m)) ∧ (b = false → k.nx ρ2)) : PS1 X bi (.While c body [] pos) ρ k := by
  refine ps_imp (ps_while hp (pt_any (tf := fun a : { q : Rho × Bool × Rho // PTD X c q.1 q.2.1 q.2.2 } => rdT X.K a.1.1 a.1.2.1 a.1.2.2) fun a => a.2)
    (pss_any (tf := fun a : { q : Nat × Rho // PSD X bi body q.2 (kWhile k Iv q.1) } => rdS X.K bi a.1.2 (kWhile k Iv a.1.1)) fun a => a.2)) fun Z σ H ⟨io, Hf, Hs, hio, E, kk⟩ => ?_
  refine ⟨fun m σ' H' => ∃ ρ' Hs', Iv m ρ' ∧ EnvOk X.K io ρ' σ' Hf Hs' H' ∧ ExF Hf Hs Hs', ⟨m0, ρ, Hs, h0, E, ExF.refl⟩, ?_⟩
  rintro m σ' H' ⟨ρ', Hs', iv, E', f'⟩
  obtain ⟨b, ρ2, q1, q2, q3⟩ := ht m ρ' iv
  refine ⟨⟨(ρ', b, ρ2), q1⟩, io, Hf, Hs', E', fun Hs2 H2 E2 f2 => ?_⟩
  cases b with
  | true =>
    refine iteT ⟨fun σ3 H3 => ∃ m' ρ3 Hs3, m' < m ∧ Iv m' ρ3 ∧ EnvOk X.K io ρ3 σ3 Hf Hs3 H3 ∧ ExF Hf Hs Hs3, fun σ3 H3 ⟨m', ρ3, Hs3, hm, iv3, E3, f3⟩ => ⟨m', hm, ρ3, Hs3, iv3, E3, f3⟩, ?_⟩
    refine ⟨⟨(m, ρ2), q2 rfl⟩, io, Hf, Hs2, hio, E2, fun ρ4 σ4 Hs4 H4 q E4 f4 => ?_, fun r ρ4 w4 σ4 Hs4 H4 q E4 f4 z => kk.rt r ρ4 w4 σ4 Hs4 H4 q E4 ((f'.trans f2).trans f4) z, fun ρ4 σ4 Hs4 H4 q E4 f4 => kk.nx ρ4 σ4 Hs4 H4 q E4 ((f'.trans f2).trans f4), fun ρ4 σ4 Hs4 H4 q E4 f4 => ?_⟩
    · obtain ⟨m', hm, iv4⟩ := q
      exact ⟨m', ρ4, Hs4, hm, iv4, E4, (f'.trans f2).trans f4⟩
    · obtain ⟨m', hm, iv4⟩ := q
      exact ⟨m', ρ4, Hs4, hm, iv4, E4, (f'.trans f2).trans f4⟩
  | false => exact iteF (kk.nx ρ2 σ' Hs2 H2 (q3 rfl) E2 (f'.trans f2))
theorem psd_while (Iv : Nat → Rho → Prop) (m0 : Nat) (hp : PassesOwn (model X.prog X.w) X.A X.env X.xe) (h0 : Iv m0 ρ)
    (ht : ∀ m ρ', Iv m ρ' → ∃ b ρ2, PTD X c ρ' b ρ2 ∧ (b = true → PSD X bi body ρ2 (kWhile { k with nx := fun ρ' => PSD X bi rest ρ' k } Iv m)) ∧ (b = false → PSD X bi rest ρ2 k)) : PSD X bi (.While c body [] pos :: rest) ρ k :=
  psd_cons (fun ρ' => PSD X bi rest ρ' k) (ps1_while Iv m0 hp h0 ht) fun _ h => h
end
end Dn
end
section
set_option Elab.async false
set_option linter.all false
set_option maxRecDepth 100000
set_option maxHeartbeats 2000000
/-! DComp: list comprehensions over data. -/
namespace Dn
open PySem PySem.Spec L2
/-! ### the comprehension's own slots forgotten -/
def wipeR (ρ : Rho) : List Nat → Rho
  | [] => ρ
  | v :: vs => (wipeR ρ vs).set v .non
theorem wipeR_len (ρ : Rho) : ∀ vs, (wipeR ρ vs).length = ρ.length
  | [] => rfl
  | v :: vs => by unfold wipeR; rw [List.length_set, wipeR_len ρ vs]
theorem wipeR_in {ρ : Rho} : ∀ {vs : List Nat} {j : Nat} {s : Sl}, (wipeR ρ vs)[j]? = some s → j ∈ vs → s = .non
  | [], j, s, _, h => by simp at h
  | v :: vs, j, s, e, h => by
    unfold wipeR at e
    by_cases hv : v = j
    · subst hv
      by_cases hl : v < (wipeR ρ vs).length
      · rw [List.getElem?_set_self hl] at e
        exact (Option.some.inj e).symm
      · rw [List.getElem?_eq_none (by rw [List.length_set]; omega)] at e
        cases e
    · rw [get_set_ne hv] at e
      rcases List.mem_cons.mp h with h | h
      · exact absurd h.symm hv
      · exact wipeR_in e h
theorem wipeR_out {ρ : Rho} : ∀ {vs : List Nat} {j : Nat}, j ∉ vs → (wipeR ρ vs)[j]? = ρ[j]?
  | [], _, _ => rfl
  | v :: vs, j, h => by
    unfold wipeR
    rw [get_set_ne (fun e => h (by rw [e]; simp))]
    exact wipeR_out fun z => h (List.mem_cons_of_mem _ z)
theorem wipe_out {σ : L2.St} : ∀ {vs : List Nat} {j : Nat}, j ∉ vs → (wipe σ vs)[j]? = σ[j]?
  | [], _, _ => rfl
  | v :: vs, j, h => by
    unfold wipe
    rw [get_set_ne (fun e => h (by rw [e]; simp))]
    exact wipe_out fun z => h (List.mem_cons_of_mem _ z)
theorem wipe_in {σ : L2.St} : ∀ {vs : List Nat} {j : Nat}, j ∈ vs → j < σ.length → (wipe σ vs)[j]? = some none
  | [], j, h, _ => by simp at h
  | v :: vs, j, h, hl => by
    unfold wipe
    by_cases hv : v = j
    · subst hv
      exact List.getElem?_set_self (by rw [wipe_length]; exact hl)
    · rw [get_set_ne hv]
      rcases List.mem_cons.mp h with h | h
      · exact absurd h.symm hv
      · exact wipe_in h hl
theorem wipe_eq {σ σ' : L2.St} {vs : List Nat} (hl : σ'.length = σ.length) (h : ∀ j, j ∉ vs → σ'[j]? = σ[j]?) : wipe σ' vs = wipe σ vs := by
  apply List.ext_getElem?
  intro j
  by_cases hj : j ∈ vs
  · by_cases hs : j < σ.length
    · rw [wipe_in hj hs, wipe_in hj (by rw [hl]; exact hs)]
    · rw [List.getElem?_eq_none (by rw [wipe_length]; omega), List.getElem?_eq_none (by rw [wipe_length]; omega)]
  · rw [wipe_out hj, wipe_out hj]
    exact h j hj
section
variable {K : PySem.W.Frag} {io : Option Addr} {ρ : Rho} {σ σ' : L2.St} {Hf Hs H : Hp} {vs : List Nat}
/-- slots that agree but where nothing is said -/
theorem EnvOk.onto (E : EnvOk K io ρ σ Hf Hs H) (hl : σ'.length = σ.length) (h : ∀ j, j ∉ vs → σ'[j]? = σ[j]?) (h0 : ∀ v ∈ vs, v ≠ 0) : EnvOk K io (wipeR ρ vs) σ' Hf Hs H := by
  have nin : ∀ {j : Nat} {s : Sl}, (wipeR ρ vs)[j]? = some s → s ≠ .non → j ∉ vs ∧ ρ[j]? = some s := fun {j s} e n => by
    by_cases hj : j ∈ vs
    · exact absurd (wipeR_in e hj) n
    · rw [wipeR_out hj] at e
      exact ⟨hj, e⟩
  refine ⟨E.fr, E.st, by rw [wipeR_len, hl]; exact E.len, fun j d e => ?_, fun j d e => ?_, fun i j d e a q1 q2 q3 q4 => ?_, fun a e => ?_⟩
  · obtain ⟨n, e⟩ := nin e (by intro z; cases z)
    obtain ⟨v, h1, h2⟩ := E.val j d e
    exact ⟨v, by rw [h j n]; exact h1, h2⟩
  · obtain ⟨n, e⟩ := nin e (by intro z; cases z)
    obtain ⟨a, h1, h2⟩ := E.own j d e
    exact ⟨a, by rw [h j n]; exact h1, h2⟩
  · obtain ⟨n1, e1⟩ := nin q1 (by intro z; cases z)
    obtain ⟨n2, e2⟩ := nin q2 (by intro z; cases z)
    rw [h i n1] at q3
    rw [h j n2] at q4
    exact E.sep i j d e a e1 e2 q3 q4
  · rw [h 0 fun z => h0 0 z rfl]
    exact E.io a e
/-- what nobody speaks of may be changed -/
theorem EnvOk.other (E : EnvOk K io ρ σ Hf Hs H) {p : Addr} {o : HO} (h1 : Hs p = none) (h2 : Hf p = none) (h3 : NoOwn ρ σ p) : EnvOk K io ρ σ Hf Hs (upd H p o) :=
  ⟨fun a u z => by rw [upd_ne (ne_of_none z h2)]; exact E.fr a u z, fun a u z => by rw [upd_ne (ne_of_none z h1)]; exact E.st a u z, E.len, E.val, fun i d z => by
    obtain ⟨a, g1, g2, g3, g4⟩ := E.own i d z
    have na : a ≠ p := fun e => h3 i d z (e ▸ g1)
    exact ⟨a, g1, g2.mono (Ex.refl _) fun u y => by rw [upd_ne na]; exact y, g3, g4⟩, E.sep, E.io⟩
end
abbrev bk (X : Cx) (scope : Scope) (s : Shared) (H : Hp) (C : Addr) (cl : List (Str × Addr)) (fp : List Addr) : Cx := X.blk s H scope (compEnvC scope cl C X.env) fp
/-- in whatever block of the comprehension -/
def PDb (X : Cx) (scope : Scope) (e : Expr) (ρ : Rho) (r : Res) (ρ' : Rho) : Prop := ∀ (s : Shared) (H : Hp) (C : Addr) (cl : List (Str × Addr)) (fp : List Addr), PD (bk X scope s H C cl fp) e ρ r ρ'
def PTsb (X : Cx) (scope : Scope) (ifs : List Expr) (ρ : Rho) (b : Bool) (ρ' : Rho) : Prop := ∀ (s : Shared) (H : Hp) (C : Addr) (cl : List (Str × Addr)) (fp : List Addr), PTs (bk X scope s H C cl fp) ifs (rdT X.K ρ b ρ')
def PGDb (X : Cx) (scope : Scope) (tg : Expr) (ts : List Nat) (f : D → Rho → Rho → Prop) : Prop := ∀ (s : Shared) (H : Hp) (C : Addr) (cl : List (Str × Addr)) (fp : List Addr), PGD (bk X scope s H C cl fp) true tg ts f
section
variable {X : Cx} {tg iter elt : Expr} {ifs : List Expr} {scope : Scope} {ts vs : List Nat} {f : D → Rho → Rho → Prop} {ρ ρ1 : Rho} {xs : List D} {pos : Pos}
theorem pts_imp {t t' : TT} (h : PTs X ifs t) (i : ∀ σ H Q, t' σ H Q → t σ H Q) : PTs X ifs t' := ⟨fun pins s σ H Q I q => h.run pins s σ H Q I (i σ H Q q)⟩
theorem ptsb_nil : PTsb X scope [] ρ true ρ := fun s H C cl fp => pts_imp pts_nil fun σ H Q ⟨io, Hf, Hs, E, k⟩ => k Hs H E ExF.refl
theorem pts_any {α : Type} {tf : α → TT} (h : ∀ a, PTs X ifs (tf a)) : PTs X ifs (fun σ H Q => ∃ a, tf a σ H Q) := ⟨fun pins s σ H Q I ⟨a, q⟩ => (h a).run pins s σ H Q I q⟩
/-- what is asked of one turn: the slots R, the list zs so far -/
def TurnOk (X : Cx) (scope : Scope) (elt : Expr) (ifs : List Expr) (f : D → Rho → Rho → Prop) (vs : List Nat) (R : Nat → Rho) (zs : Nat → List D) (i : Nat) (d : D) : Prop :=
  ∃ ρ2 b ρ2', f d (R i) ρ2 ∧ PTsb X scope ifs ρ2 b ρ2' ∧ (b = true → ∃ y ρ3, PDb X scope elt ρ2' (.val y) ρ3 ∧ wipeR ρ3 vs = R (i + 1) ∧ zs (i + 1) = zs i ++ [y]) ∧ (b = false → wipeR ρ2' vs = R (i + 1) ∧ zs (i + 1) = zs i)
abbrev ttC (X : Cx) (scope : Scope) (ifs : List Expr) : TT := fun σ H Q => ∃ a : { q : Rho × Bool × Rho // PTsb X scope ifs q.1 q.2.1 q.2.2 }, rdT X.K a.1.1 a.1.2.1 a.1.2.2 σ H Q
abbrev teC (X : Cx) (scope : Scope) (elt : Expr) : TE := fun σ H Q => ∃ a : { q : Rho × D × Rho // PDb X scope elt q.1 (.val q.2.1) q.2.2 }, rdE X.K a.1.1 (.val a.1.2.1) a.1.2.2 σ H Q
theorem lc_read (R : Nat → Rho) (zs : Nat → List D) (h0 : R 0 = wipeR ρ1 vs) (hR : ∀ i, wipeR (R i) vs = R i) (hz0 : zs 0 = []) (hzl : ∀ i, (zs i).length ≤ i) (hts : ∀ t ∈ ts, t ∈ vs) (hv0 : ∀ v ∈ vs, v ≠ 0) (hz : xs.length ≤ 1000000)
    (ht : ∀ i d, xs[i]? = some d → TurnOk X scope elt ifs f vs R zs i d) {σ : L2.St} {H : Hp} {Q : VK}
    (h : rdE X.K ρ (.own (.lst (zs xs.length))) (R xs.length) σ H Q) : tLc (rdI X.K ρ xs ρ1) (rdG X.K true ts f) (ttC X scope ifs) (teC X scope elt) vs σ H Q := by
  obtain ⟨io, Hf, Hs, E, k⟩ := h
  refine ⟨io, Hf, Hs, E, fun J Hs1 H1 E1 f1 w => fun Dd hD => ?_⟩
  have wl : (wipe σ vs).length = σ.length := wipe_length σ vs
  have E2 : EnvOk X.K io (R 0) (wipe σ vs) Hf Hs1 H1 := by rw [h0]; exact E1.onto wl (fun j hj => wipe_out hj) hv0
  refine lc_it (g := rdG X.K true ts f) (tt := ttC X scope ifs) (te := teC X scope elt) (Qd := Q (.ref Dd)) w
    (fun i H' => ∃ Hs' acc, EnvOk X.K io (R i) (wipe σ vs) Hf Hs' H' ∧ ExF Hf Hs1 Hs' ∧ H' Dd = some (.lst acc) ∧ Dens X.K Hs' acc (zs i) ∧ Hs' Dd = none ∧ NoOwn (R i) (wipe σ vs) Dd ∧ Hf Dd = none)
    ⟨Hs1, [], E2.grow (Ex.new hD) (Ex.refl _) (E1.st.trans (Ex.new hD)) (fun _ _ _ z => z), ExF.refl, upd_same, by rw [hz0]; exact .nil, E1.st.none hD, E2.noOwn hD, E1.fr.none hD⟩
    (fun i H' _ ⟨Hs', acc, E', f', _⟩ => f'.ex.trans E'.st) ?_ ?_
  · rintro i v H' H2 hi ⟨Hs', acc, E', f', hacc, dacc, nD, oD, fD⟩ ⟨d, hd, y⟩
    obtain ⟨Hs2, g, dd⟩ := y Hs' f'.ex E'.st
    obtain ⟨E3, f3⟩ := E'.gr g
    obtain ⟨E4, x1, x2⟩ := E3.more
    have mD : mxf (R i) (wipe σ vs) H2 Dd = some (.lst acc) := mxf_of (g.ex _ _ hacc) oD
    have nD2 : Hs2 Dd = none := g.nw _ _ hacc nD
    obtain ⟨ρ2, b, ρ2', t1, t2, t3, t4⟩ := ht i d hd
    refine ⟨io, _, Hs2, R i, ρ2, d, (fun z => Bool.noConfusion z), E4, dd, t1, fun σ3 H3 E5 o5 => ?_⟩
    have ow : σ3.length = (wipe σ vs).length ∧ ∀ j, j ∉ vs → σ3[j]? = (wipe σ vs)[j]? := ⟨o5.1, fun j hj => o5.2 j fun z => hj (hts j z)⟩
    refine ⟨(wipe_eq ow.1 ow.2).trans (wipe_eq wl fun j hj => wipe_out hj), ⟨(ρ2, b, ρ2'), t2⟩, io, _, Hs2, E5, fun Hs4 H4 E6 f6 => ?_⟩
    have nD4 : Hs4 Dd = none := f6.nw _ _ mD nD2
    -- the turn's end
    have fin : ∀ {ρ3 : Rho} {Hs5 H5 : Hp}, EnvOk X.K io ρ3 σ3 (mxf (R i) (wipe σ vs) H2) Hs5 H5 → ExF (mxf (R i) (wipe σ vs) H2) Hs4 Hs5 → wipeR ρ3 vs = R (i + 1) →
        EnvOk X.K io (R (i + 1)) (wipe σ vs) Hf Hs5 H5 ∧ ExF Hf Hs1 Hs5 ∧ H5 Dd = some (.lst acc) ∧ Hs5 Dd = none ∧ NoOwn (R (i + 1)) (wipe σ vs) Dd ∧ Ex Hs' Hs5 := fun {ρ3 Hs5 H5} E7 f7 e => by
      have E8 := E7.onto (σ' := wipe σ vs) (vs := vs) ow.1.symm (fun j hj => (ow.2 j hj).symm) hv0
      rw [e] at E8
      refine ⟨E8.less x1, ((f'.trans f3).trans (f6.less x1)).trans (f7.less x1), E7.fr _ _ mD, f7.nw _ _ mD nD4, fun n e' q1 q2 => ?_, (f3.trans ((f6.trans f7).less x1)).ex⟩
      obtain ⟨a, z1, z2, z3, z4⟩ := E8.own n e' q1
      rw [q2] at z1
      cases z1
      rw [mD] at z4
      cases z4
    cases b with
    | false =>
      obtain ⟨q1, q2⟩ := t4 rfl
      obtain ⟨z1, z2, z3, z4, z5, z6⟩ := fin E6 ExF.refl q1
      refine iteF ⟨Hs4, acc, z1, z2, z3, ?_, z4, z5, fD⟩
      rw [q2]
      exact dacc.mono z6
    | true =>
      obtain ⟨yv, ρ3, q1, q2, q3⟩ := t3 rfl
      refine iteT ⟨⟨(ρ2', yv, ρ3), q1⟩, io, _, Hs4, E6, fun vy Hs5 H5 E7 f7 dy => ?_⟩
      obtain ⟨z1, z2, z3, z4, z5, z6⟩ := fin E7 f7 q2
      have la : acc.length < sizeLine := by
        rw [dacc.length, sizeLine_eq]
        have := hzl i
        omega
      refine ⟨acc, z3, la, Hs5, acc ++ [vy], z1.other z4 fD z5, z2, upd_same, ?_, z4, z5, fD⟩
      rw [q3]
      exact (dacc.mono z6).append (.cons dy .nil)
  · rintro H' ⟨Hs', acc, E', f', hacc, dacc, nD, oD, fD⟩
    have E3 := E'.onto (σ' := σ) (vs := vs) wl.symm (fun j hj => (wipe_out hj).symm) hv0
    rw [hR] at E3
    refine k _ Hs' H' E3 (f1.trans f') ⟨Dd, rfl, ⟨acc, hacc, dacc⟩, nD, fD, fun n e q1 q2 => ?_⟩
    have nv : n ∉ vs := fun z => by
      have e' := q1
      rw [← hR xs.length] at e'
      have := wipeR_in e' z
      cases this
    exact oD n e q1 (by rw [wipe_out nv]; exact q2)
/-- [elt for tg in iter if ..] -/
theorem pd_lc (own : List (Str × Nat)) (R : Nat → Rho) (zs : Nat → List D) (hN : X.N.Nodup) (hi : PID X tg iter ρ xs ρ1) (ok : BlkOk X.N X.env.scope scope own) (hg : PGDb X scope tg ts f) (h0 : R 0 = wipeR ρ1 (own.map (·.2))) (hR : ∀ i, wipeR (R i) (own.map (·.2)) = R i)
    (hz0 : zs 0 = []) (hzl : ∀ i, (zs i).length ≤ i) (hz : xs.length ≤ 1000000) (ht : ∀ i d, xs[i]? = some d → TurnOk X scope elt ifs f (own.map (·.2)) R zs i d)
    (hts : ∀ t ∈ ts, t ∈ own.map (·.2) := by decide) (hv0 : ∀ v ∈ own.map (·.2), v ≠ 0 := by decide) (hc : X.calm = true := by rfl) (hs : ∀ x, foldedSetIterable iter X.env x = pure x := by intro _; rfl) :
    PD X (.ListComp elt [⟨tg, iter, ifs, 0⟩] scope pos) ρ (.own (.lst (zs xs.length))) (R xs.length) :=
  pe_imp (pe_lc (g := rdG X.K true ts f) (tt := ttC X scope ifs) (te := teC X scope elt) hc hN hi ok (fun s H C cl fp => hg s H C cl fp) (fun s H C cl fp => pts_any fun a => a.2 s H C cl fp) (fun s H C cl fp => pe_any fun a => a.2 s H C cl fp) hs) fun σ H Q h => lc_read R zs h0 hR hz0 hzl hts hv0 hz ht h
/-- name = [..] on one line -/
theorem ps1_lc {bi : Bool} {k : Kn} {y : Str} {py spos : Pos} (i : Nat) (own : List (Str × Nat)) (R : Nat → Rho) (zs : Nat → List D) (hN : X.N.Nodup) (hi : PID X tg iter ρ xs ρ1) (ok : BlkOk X.N X.env.scope scope own) (hg : PGDb X scope tg ts f) (h0 : R 0 = wipeR ρ1 (own.map (·.2))) (hR : ∀ i, wipeR (R i) (own.map (·.2)) = R i)
    (hz0 : zs 0 = []) (hzl : ∀ i, (zs i).length ≤ i) (hz : xs.length ≤ 1000000) (ht : ∀ i d, xs[i]? = some d → TurnOk X scope elt ifs f (own.map (·.2)) R zs i d)
    (hsw : swapsWith (.ListComp elt [⟨tg, iter, ifs, 0⟩] scope pos) (some (.Name y py)) spos.line X.env = pure true) (hk : k.nx ((R xs.length).set i (.own (.lst (zs xs.length)))) := by rfl) (hy : X.N[i]? = some y := by rfl) (hyl : X.env.scope.names.lookup y = some .local := by rfl) (hio : i ≠ 0 ∨ bi = false := by first | exact Or.inl (by decide) | exact Or.inr rfl)
    (hts : ∀ t ∈ ts, t ∈ own.map (·.2) := by decide) (hv0 : ∀ v ∈ own.map (·.2), v ≠ 0 := by decide) (hc : X.calm = true := by rfl) (hs : ∀ x, foldedSetIterable iter X.env x = pure x := by intro _; rfl) :
    PS1 X bi (.Assign [.Name y py] (.ListComp elt [⟨tg, iter, ifs, 0⟩] scope pos) spos) ρ k :=
  ps_imp (ps_setLc (g := rdG X.K true ts f) (tt := ttC X scope ifs) (te := teC X scope elt) hc hN hy hyl hsw hi ok (fun s H C cl fp => hg s H C cl fp) (fun s H C cl fp => pts_any fun a => a.2 s H C cl fp) (fun s H C cl fp => pe_any fun a => a.2 s H C cl fp) hs) fun Z σ H ⟨io, Hf, Hs, hb, E, kk⟩ =>
    lc_read (ρ := ρ) R zs h0 hR hz0 hzl hts hv0 hz ht ⟨io, Hf, Hs, E, fun v Hs' H' E' f' r => kk.nx _ _ Hs' H' hk (E'.setr r (hio.imp_right hb)) f'⟩
/-! ### the usual cases -/
theorem wipeR_twice (ρ : Rho) (vs : List Nat) : wipeR (wipeR ρ vs) vs = wipeR ρ vs := by
  apply List.ext_getElem?
  intro j
  by_cases hj : j ∈ vs
  · by_cases hl : j < ρ.length
    · cases q : (wipeR ρ vs)[j]? with
      | none =>
        have z := List.getElem?_eq_none_iff.mp q
        rw [wipeR_len] at z
        omega
      | some s =>
        have := wipeR_in q hj
        subst this
        cases q2 : (wipeR (wipeR ρ vs) vs)[j]? with
        | none =>
          have z := List.getElem?_eq_none_iff.mp q2
          rw [wipeR_len, wipeR_len] at z
          omega
        | some s2 =>
          have := wipeR_in q2 hj
          subst this
          rfl
    · rw [List.getElem?_eq_none (by rw [wipeR_len, wipeR_len]; omega), List.getElem?_eq_none (by rw [wipeR_len]; omega)]
  · rw [wipeR_out hj]
theorem take_step {α : Type} {l : List α} {i : Nat} {y : α} (h : l[i]? = some y) : l.take (i + 1) = l.take i ++ [y] := by
  rw [List.take_add_one, h]
  rfl
end
end Dn
end
section
set_option Elab.async false
set_option linter.all false
set_option maxRecDepth 100000
set_option maxHeartbeats 2000000
/-! DBuilt: operators and built-in functions over data. -/
namespace Dn
open PySem PySem.Spec L2
section
variable {X : Cx}
/-! ### ints -/
theorem bd_I {f : Value → Value → Sem Value} {C : Int → Int → Prop} {g : Int → Int → Int} (h : OpR X f (rI C fun i j => .int (g i j))) {i j : Int} (hc : C i j) : BinD X f (.int i) (.int j) (.val (.int (g i j))) :=
  opr_imp h fun u v H Q ⟨Hs, e, d1, d2, k⟩ => by
    cases d1
    cases d2
    exact ⟨i, j, rfl, rfl, hc, k _ Hs H (Gr.refl e) (.int _)⟩
theorem bd_I0 {f : Value → Value → Sem Value} {g : Int → Int → Int} (h : OpR X f (rI0 fun i j => .int (g i j))) {i j : Int} : BinD X f (.int i) (.int j) (.val (.int (g i j))) :=
  opr_imp h fun u v H Q ⟨Hs, e, d1, d2, k⟩ => by
    cases d1
    cases d2
    exact ⟨i, j, rfl, rfl, k _ Hs H (Gr.refl e) (.int _)⟩
theorem bd_B0 {f : Value → Value → Sem Value} {g : Int → Int → Bool} (h : OpR X f (rI0 fun i j => .bl (g i j))) {i j : Int} : BinD X f (.int i) (.int j) (.val (.bl (g i j))) :=
  opr_imp h fun u v H Q ⟨Hs, e, d1, d2, k⟩ => by
    cases d1
    cases d2
    exact ⟨i, j, rfl, rfl, k _ Hs H (Gr.refl e) (.bl _)⟩
theorem bd_add {i j : Int} : BinD X (binaryOp .Add) (.int i) (.int j) (.val (.int (i + j))) := bd_I0 op_add
theorem bd_sub {i j : Int} : BinD X (binaryOp .Sub) (.int i) (.int j) (.val (.int (i - j))) := bd_I0 op_sub
/-- factors of together less than a million bits -/
theorem bd_mul {i j : Int} (h : CMulW i j) : BinD X (binaryOp .Mult) (.int i) (.int j) (.val (.int (i * j))) := bd_I op_mulW h
theorem bd_mod {i j : Int} (h : 0 < j) : BinD X (binaryOp .Mod) (.int i) (.int j) (.val (.int (i % j))) := bd_I op_mod h
theorem bd_div {i j : Int} (h : 0 < j ∧ j < 1073741824) : BinD X (binaryOp .FloorDiv) (.int i) (.int j) (.val (.int (i / j))) := bd_I op_fdiv h
/-- // by any divisor that is not 0, below 2 ^ 9000 -/
def CDivA (_ j : Int) : Prop := j ≠ 0 ∧ j.natAbs.log2 < 9000
theorem op_fdivA : OpR X (binaryOp .FloorDiv) (rI CDivA fun i j => .int (i.fdiv j)) := opI fun _ _ _ _ _ _ _ hc q => PyProof.Rows.floordiv_int hc.1 q (.inl (PyProof.noPylong_of_log2 hc.2))
theorem bd_divA {i j : Int} (h : CDivA i j) : BinD X (binaryOp .FloorDiv) (.int i) (.int j) (.val (.int (i.fdiv j))) := bd_I op_fdivA h
theorem bd_pow {i j : Int} (h : CPow i j) : BinD X (binaryOp .Pow) (.int i) (.int j) (.val (.int (i ^ j.toNat))) := bd_I op_pow h
theorem bd_lt {i j : Int} : BinD X (compareOp .Lt) (.int i) (.int j) (.val (.bl (decide (i < j)))) := bd_B0 op_lt
theorem bd_le {i j : Int} : BinD X (compareOp .LtE) (.int i) (.int j) (.val (.bl (decide (i ≤ j)))) := bd_B0 op_le
theorem bd_gt {i j : Int} : BinD X (compareOp .Gt) (.int i) (.int j) (.val (.bl (decide (j < i)))) := bd_B0 op_gt
theorem bd_ge {i j : Int} : BinD X (compareOp .GtE) (.int i) (.int j) (.val (.bl (decide (j ≤ i)))) := bd_B0 op_ge
/-! ### ==, != of scalars -/
theorem bd_eqI {i j : Int} : BinD X (compareOp .Eq) (.int i) (.int j) (.val (.bl (decide (i = j)))) :=
  opr_imp op_eq fun u v H Q ⟨Hs, e, d1, d2, k⟩ => by
    cases d1
    cases d2
    refine ⟨rfl, ?_⟩
    have z := k (.bl (decide (i = j))) Hs H (Gr.refl e) (.bl _)
    rw [show decide (V.int i = V.int j) = decide (i = j) by rw [dec_int]; rfl]
    exact z
theorem bd_neI {i j : Int} : BinD X (compareOp .NotEq) (.int i) (.int j) (.val (.bl (!decide (i = j)))) :=
  opr_imp op_ne fun u v H Q ⟨Hs, e, d1, d2, k⟩ => by
    cases d1
    cases d2
    refine ⟨rfl, ?_⟩
    have z := k (.bl (!decide (i = j))) Hs H (Gr.refl e) (.bl _)
    rw [show decide (V.int i = V.int j) = decide (i = j) by rw [dec_int]; rfl]
    exact z
theorem bd_eqS {i j : Str} : BinD X (compareOp .Eq) (.str i) (.str j) (.val (.bl (decide (i = j)))) :=
  opr_imp op_eq fun u v H Q ⟨Hs, e, d1, d2, k⟩ => by
    cases d1
    cases d2
    refine ⟨rfl, ?_⟩
    have z := k (.bl (decide (i = j))) Hs H (Gr.refl e) (.bl _)
    rw [show decide (V.str i = V.str j) = decide (i = j) by rw [Bool.eq_iff_iff]; simp]
    exact z
theorem bd_neS {i j : Str} : BinD X (compareOp .NotEq) (.str i) (.str j) (.val (.bl (!decide (i = j)))) :=
  opr_imp op_ne fun u v H Q ⟨Hs, e, d1, d2, k⟩ => by
    cases d1
    cases d2
    refine ⟨rfl, ?_⟩
    have z := k (.bl (!decide (i = j))) Hs H (Gr.refl e) (.bl _)
    rw [show decide (V.str i = V.str j) = decide (i = j) by rw [Bool.eq_iff_iff]; simp]
    exact z
theorem bd_eqB {i j : Bool} : BinD X (compareOp .Eq) (.bl i) (.bl j) (.val (.bl (i == j))) :=
  opr_imp op_eq fun u v H Q ⟨Hs, e, d1, d2, k⟩ => by
    cases d1
    cases d2
    refine ⟨rfl, ?_⟩
    rw [dec_bl]
    exact k _ Hs H (Gr.refl e) (.bl _)
theorem bd_neB {i j : Bool} : BinD X (compareOp .NotEq) (.bl i) (.bl j) (.val (.bl (!(i == j)))) :=
  opr_imp op_ne fun u v H Q ⟨Hs, e, d1, d2, k⟩ => by
    cases d1
    cases d2
    refine ⟨rfl, ?_⟩
    rw [dec_bl]
    exact k _ Hs H (Gr.refl e) (.bl _)
/-! ### texts, lists -/
theorem bd_cat {i j : Str} (h : i.length + j.length ≤ 1000000) : BinD X (binaryOp .Add) (.str i) (.str j) (.val (.str (i ++ j))) :=
  opr_imp op_add_str fun u v H Q ⟨Hs, e, d1, d2, k⟩ => by
    cases d1
    cases d2
    exact ⟨i, j, rfl, rfl, by rw [sizeLine_eq]; omega, k _ Hs H (Gr.refl e) (.str _)⟩
theorem bd_catL {xs ys : List D} (h : xs.length + ys.length ≤ 1000000) : BinD X (binaryOp .Add) (.lst xs) (.lst ys) (.own (.lst (xs ++ ys))) :=
  opr_imp op_cat fun u v H Q ⟨Hs, e, d1, d2, k⟩ => by
    cases d1 with
    | lst a1 a2 =>
      cases d2 with
      | lst b1 b2 =>
        refine ⟨_, _, _, _, rfl, rfl, e _ _ a1, e _ _ b1, by rw [a2.length, b2.length, sizeLine_eq]; omega, fun p hp => ?_⟩
        exact k _ Hs _ (Gr.newo e hp) ⟨p, rfl, hp, e.none hp, _, upd_same, a2.append b2⟩
theorem bd_repL {xs : List D} {n : Int} (h0 : 0 ≤ n) (h : xs.length * n.toNat ≤ 1000000) (hn : n ≤ 1000000) : BinD X (binaryOp .Mult) (.lst xs) (.int n) (.own (.lst (List.replicate n.toNat xs).flatten)) :=
  opr_imp op_rep fun u v H Q ⟨Hs, e, d1, d2, k⟩ => by
    cases d1 with
    | lst a1 a2 =>
      cases d2
      refine ⟨_, n, _, rfl, rfl, e _ _ a1, by omega, by omega, by rw [a2.length, sizeLine_eq]; omega, fun p hp => ?_⟩
      refine k _ Hs _ (Gr.newo e hp) ⟨p, rfl, hp, e.none hp, _, upd_same, ?_⟩
      generalize n.toNat = m
      induction m with
      | zero => exact .nil
      | succ m ih =>
        rw [List.replicate_succ, List.replicate_succ, List.flatten_cons, List.flatten_cons]
        exact a2.append ih
theorem un_negD {i : Int} : UnD X (unaryOp .USub) (.int i) (.val (.int (-i))) := unr_imp un_neg fun u H Q ⟨Hs, e, d1, k⟩ => by
  cases d1
  exact ⟨i, rfl, k _ Hs H (Gr.refl e) (.int _)⟩
/-! ### calls of built-in functions -/
variable {ρ ρ1 : Rho} {p pos : Pos} {e : Expr} {es : List Expr} {r : Res} {as : List D} {x : Str} {id T : String}
theorem pd_callB (hc : CallD X (.builtin id) as r) (hm : X.mg x = none) (ha : PAD X (e :: es) ρ as ρ1) (hv : bootBuiltins x = some (.builtin id) := by decide +kernel) (hg : Gl X x := by rfl) (hn : x ≠ "__name__" := by decide) (hdb : (x == ("__debug__" : Str)) = false := by decide)
    (he : starEach (e :: es) X.env = (false, eval e X.env) :: starEach es X.env := by rfl) (hpl : (backTo pos (starEach es X.env)).any (·.1) = false := by rfl) : PD X (.Call (.Name x p) (e :: es) [] pos) ρ r ρ1 :=
  pe_imp (pe_callB hc hg hm hv ha hn hdb he hpl) fun σ H Q ⟨io, Hf, Hs, E, kk⟩ => ⟨io, Hf, Hs, E, fun vs Hs1 H1 E1 f1 q1 => ⟨Hs1, E1.st, q1, fun w Hs2 H2 g q => by
    obtain ⟨E2, f2⟩ := E1.gr g
    exact kk w Hs2 H2 E2 (f1.trans f2) (E1.ret q)⟩⟩
theorem pd_callTy (hc : CallD X (.type T) as r) (hm : X.mg x = none) (ha : PAD X (e :: es) ρ as ρ1) (hv : bootBuiltins x = some (.type T) := by decide +kernel) (hg : Gl X x := by rfl) (hn : x ≠ "__name__" := by decide) (hdb : (x == ("__debug__" : Str)) = false := by decide)
    (he : starEach (e :: es) X.env = (false, eval e X.env) :: starEach es X.env := by rfl) (hpl : (backTo pos (starEach es X.env)).any (·.1) = false := by rfl) : PD X (.Call (.Name x p) (e :: es) [] pos) ρ r ρ1 :=
  pe_imp (pe_callTy hc hg hm hv ha hn hdb he hpl) fun σ H Q ⟨io, Hf, Hs, E, kk⟩ => ⟨io, Hf, Hs, E, fun vs Hs1 H1 E1 f1 q1 => ⟨Hs1, E1.st, q1, fun w Hs2 H2 g q => by
    obtain ⟨E2, f2⟩ := E1.gr g
    exact kk w Hs2 H2 E2 (f1.trans f2) (E1.ret q)⟩⟩
/-- a module's name for a built-in function -/
theorem pd_callG (hc : CallD X (.builtin id) as r) (hm : X.mg x = some (.builtin id)) (ha : PAD X (e :: es) ρ as ρ1) (hg : Gl X x := by rfl) (hdb : (x == ("__debug__" : Str)) = false := by decide)
    (he : starEach (e :: es) X.env = (false, eval e X.env) :: starEach es X.env := by rfl) (hpl : (backTo pos (starEach es X.env)).any (·.1) = false := by rfl) : PD X (.Call (.Name x p) (e :: es) [] pos) ρ r ρ1 :=
  pe_imp (pe_callBfun hc hg hm ha hdb he hpl) fun σ H Q ⟨io, Hf, Hs, E, kk⟩ => ⟨io, Hf, Hs, E, fun vs Hs1 H1 E1 f1 q1 => ⟨Hs1, E1.st, q1, fun w Hs2 H2 g q => by
    obtain ⟨E2, f2⟩ := E1.gr g
    exact kk w Hs2 H2 E2 (f1.trans f2) (E1.ret q)⟩⟩
theorem one {K : PySem.W.Frag} {H : Hp} {vs : List V} {d : D} (h : Dens K H vs [d]) : ∃ v, vs = [v] ∧ Den K H v d := by
  cases h with | cons a b => cases b; exact ⟨_, rfl, a⟩
theorem two {K : PySem.W.Frag} {H : Hp} {vs : List V} {d d' : D} (h : Dens K H vs [d, d']) : ∃ v v', vs = [v, v'] ∧ Den K H v d ∧ Den K H v' d' := by
  cases h with | cons a b => obtain ⟨v', rfl, c⟩ := one b; exact ⟨_, v', rfl, a, c⟩
theorem cd_abs {i : Int} : CallD X (.builtin "abs") [.int i] (.val (.int (if i < 0 then -i else i))) := callr_imp call_abs fun vs H Q ⟨Hs, e, d, k⟩ => by
  obtain ⟨v, rfl, d1⟩ := one d
  cases d1
  exact ⟨i, rfl, k _ Hs H (Gr.refl e) (.int _)⟩
theorem cd_max {i j : Int} (hc : X.calm = true := by rfl) : CallD X (.builtin "max") [.int i, .int j] (.val (.int (if j > i then j else i))) := callr_imp (call_max2 hc) fun vs H Q ⟨Hs, e, d, k⟩ => by
  obtain ⟨v, v', rfl, d, d'⟩ := two d
  cases d
  cases d'
  exact ⟨i, j, rfl, k _ Hs H (Gr.refl e) (.int _)⟩
theorem cd_min {i j : Int} (hc : X.calm = true := by rfl) : CallD X (.builtin "min") [.int i, .int j] (.val (.int (if j < i then j else i))) := callr_imp (call_min2 hc) fun vs H Q ⟨Hs, e, d, k⟩ => by
  obtain ⟨v, v', rfl, d, d'⟩ := two d
  cases d
  cases d'
  exact ⟨i, j, rfl, k _ Hs H (Gr.refl e) (.int _)⟩
theorem cd_int {i : Int} : CallD X (.type "int") [.int i] (.val (.int i)) := callr_imp call_int1 fun vs H Q ⟨Hs, e, d, k⟩ => by
  obtain ⟨v, rfl, d1⟩ := one d
  cases d1
  exact .inl ⟨i, rfl, k _ Hs H (Gr.refl e) (.int _)⟩
theorem cd_intB {b : Bool} : CallD X (.type "int") [.bl b] (.val (.int (if b then 1 else 0))) := callr_imp call_int1 fun vs H Q ⟨Hs, e, d, k⟩ => by
  obtain ⟨v, rfl, d1⟩ := one d
  cases d1
  exact .inr ⟨b, rfl, k _ Hs H (Gr.refl e) (.int _)⟩
theorem cd_strI {i : Int} (h : i.natAbs.log2 < 1920) : CallD X (.type "str") [.int i] (.val (.str (toString i))) := callr_imp call_str_int fun vs H Q ⟨Hs, e, d, k⟩ => by
  obtain ⟨v, rfl, d1⟩ := one d
  cases d1
  exact ⟨i, rfl, h, k _ Hs H (Gr.refl e) (.str _)⟩
theorem cd_reprI {i : Int} (h : i.natAbs.log2 < 1920) : CallD X (.builtin "repr") [.int i] (.val (.str (toString i))) := callr_imp SkE.call_repr_int fun vs H Q ⟨Hs, e, d, k⟩ => by
  obtain ⟨v, rfl, d1⟩ := one d
  cases d1
  exact ⟨i, rfl, h, k _ Hs H (Gr.refl e) (.str _)⟩
theorem cd_gcd {i j : Int} : CallD X (.builtin "math.gcd") [.int i, .int j] (.val (.int ((Nat.gcd i.natAbs j.natAbs : Nat) : Int))) := callr_imp cr_gcd fun vs H Q ⟨Hs, e, d, k⟩ => by
  obtain ⟨v, v', rfl, d, d'⟩ := two d
  cases d
  cases d'
  exact ⟨i, j, rfl, k _ Hs H (Gr.refl e) (.int _)⟩
theorem cd_divmod {i j : Int} (h : 0 < j ∧ j < 1073741824) : CallD X (.builtin "divmod") [.int i, .int j] (.val (.tup [.int (i / j), .int (i % j)])) := callr_imp call_divmod fun vs H Q ⟨Hs, e, d, k⟩ => by
  obtain ⟨v, v', rfl, d, d'⟩ := two d
  cases d
  cases d'
  exact ⟨i, j, rfl, h, fun p hp => k _ _ _ (Gr.new e hp) (.tup upd_same (.cons (.int _) (.cons (.int _) .nil)))⟩
/-- what len tells -/
def lenD : D → Option Nat
  | .lst xs => some xs.length
  | .lstK xs => some xs.length
  | .tup xs => some xs.length
  | .tupK xs => some xs.length
  | .str x => if x.length ≤ 1000000 then some x.length else none
  | _ => none
theorem cd_len {d : D} {n : Nat} (h : lenD d = some n) : CallD X (.builtin "len") [d] (.val (.int (n : Int))) := callr_imp call_len fun vs H Q ⟨Hs, e, dn, k⟩ => by
  obtain ⟨v, rfl, d1⟩ := one dn
  refine ⟨v, n, rfl, ?_, k _ Hs H (Gr.refl e) (.int _)⟩
  cases d1 with
  | lst a b => cases h; exact .inl ⟨_, SqL.of (e _ _ a), b.length.symm⟩
  | lstK a b => cases h; exact .inl ⟨_, ex_l e a, b.length.symm⟩
  | tup a b => cases h; exact .inr ⟨_, SqT.of (e _ _ a), b.length.symm⟩
  | tupK a b => cases h; exact .inr ⟨_, ex_t e a, b.length.symm⟩
  | str y =>
    have h : (if y.length ≤ 1000000 then some y.length else none) = some n := h
    by_cases q : y.length ≤ 1000000
    · rw [if_pos q] at h
      cases h
      exact ⟨by rw [sizeLine_eq]; omega, rfl⟩
    · rw [if_neg q] at h
      cases h
  | _ => cases h
/-- a list of what a list or a tuple holds; a tuple of it -/
def seqD : D → Option (List D)
  | .lst xs => some xs
  | .lstK xs => some xs
  | .tup xs => some xs
  | .tupK xs => some xs
  | _ => none
theorem cd_list {d : D} {xs : List D} (h : seqD d = some xs) : CallD X (.type "list") [d] (.own (.lst xs)) := callr_imp call_list_of fun vs H Q ⟨Hs, e, dn, k⟩ => by
  obtain ⟨v, rfl, d1⟩ := one dn
  cases d1 with
  | lst a b => cases h; exact ⟨_, _, rfl, .inl (SqL.of (e _ _ a)), fun l hl => k _ Hs _ (Gr.newo e hl) ⟨l, rfl, hl, e.none hl, _, upd_same, b⟩⟩
  | lstK a b => cases h; exact ⟨_, _, rfl, .inl (ex_l e a), fun l hl => k _ Hs _ (Gr.newo e hl) ⟨l, rfl, hl, e.none hl, _, upd_same, b⟩⟩
  | tup a b => cases h; exact ⟨_, _, rfl, .inr (SqT.of (e _ _ a)), fun l hl => k _ Hs _ (Gr.newo e hl) ⟨l, rfl, hl, e.none hl, _, upd_same, b⟩⟩
  | tupK a b => cases h; exact ⟨_, _, rfl, .inr (ex_t e a), fun l hl => k _ Hs _ (Gr.newo e hl) ⟨l, rfl, hl, e.none hl, _, upd_same, b⟩⟩
  | _ => cases h
theorem cd_tuple {xs : List D} : CallD X (.type "tuple") [.lst xs] (.val (.tup xs)) := callr_imp call_tuple_of fun vs H Q ⟨Hs, e, dn, k⟩ => by
  obtain ⟨v, rfl, d1⟩ := one dn
  cases d1 with
  | lst a b => exact ⟨_, _, rfl, .inl ⟨SqL.of (e _ _ a), fun l hl => k _ _ _ (Gr.new e hl) (.tup upd_same (b.mono (Ex.new (e.none hl))))⟩⟩
end
end Dn
end
section
set_option Elab.async false
set_option linter.all false
set_option maxRecDepth 100000
set_option maxHeartbeats 2000000
/-! DOwn: operators, comparisons, str and repr of instances of own classes; isinstance. -/
namespace Dn
open PySem PySem.Spec L2
section
variable {X : Cx} {k j : Nat} {f C : Addr} {fd : FuncData} {ps : List Str} {S : List D → Res → Prop} {r : Res} {fs gs : List (Str × D)} {d : D}
/-- the callee runs in a surrounding of the same frames -/
theorem runAt {A' : Around} {pins : List (Addr × Obj)} {σ : L2.St} {H Hs : Hp} {s : Shared} {Q : VK} {us : List Value} {vs : List V} {ds : List D} {E : Value → Shared → Prop} (F : FnOk X.prog X.w X.K X.mg X.base CX0 k f fd ps (spD X.K S)) (room : Room k A') (hb : Binds X.K fd ps []) (I : Inv X pins σ H s)
    (e0 : Env0 X.prog X.w X.K X.mg X.base A' X.stack s H) (rel : Vals vs us) (e : Ex Hs H) (hd : Dens X.K Hs vs ds) (hS : S ds r) (kq : ∀ w Hs' H', Gr H H' Hs Hs' → RetOk X.K H Hs' H' w r → Q w H') : wpAny (model X.prog X.w) A' (call (.ref f) us) (EP X pins σ Q) E s := by
  have pr : spD X.K S vs H Q E0 := ⟨ds, r, Hs, hS, e, hd, kq⟩
  have many : us.length = ps.length := rel.length.symm.trans (F.len _ _ _ _ pr)
  have bi := hb s us I.kIn (by rw [List.append_nil]; exact many)
  rw [List.append_nil] at bi
  refine wpAny_call (codeAny_mono (F.run A' X.stack s H ⟨us, []⟩ us vs Q E0 room e0 bi rel pr) fun res s' z => ?_)
  cases res with
  | error er => exact False.elim z
  | ok fl => cases fl <;> first | exact I.after z | exact False.elim z
theorem back_cmp {pins : List (Addr × Obj)} {σ : L2.St} {Q : VK} {u : Value} {s : Shared} (h : EP X pins σ Q u s) : PySem.W.CmpBack (EP X pins σ Q) u s := by
  have h' := h
  obtain ⟨v, H', I, rel, q⟩ := h
  cases v with
  | non => cases rel; exact h'
  | bl b => cases rel; exact h'
  | int i => obtain ⟨t, rfl⟩ := rel; exact h'
  | str i => obtain ⟨t, rfl⟩ := rel; exact h'
  | byt i => obtain ⟨t, rfl⟩ := rel; exact h'
  | flt i => obtain ⟨t, rfl⟩ := rel; exact h'
  | ref i => cases rel; exact h'
  | ty i => cases rel; exact h'
/-- what a class must have so that its instances stand at an operator -/
structure OpC (K : PySem.W.Frag) (C : Addr) (nm : String) (f : Addr) : Prop where
  self : PySem.W.selfFirst K C = true
  at_ : PySem.W.findIn K (.ref C) (PySem.dunder nm) = some (some (.ref f))
  fn : PySem.W.isFn K (.ref f) = true
theorem inst_of {pins : List (Addr × Obj)} {σ : L2.St} {H Hs : Hp} {s : Shared} {v : V} {u : Value} (I : Inv X pins σ H s) (e : Ex Hs H) (h : Den X.K Hs v (.obj C fs)) (rel : RelV v u) : ∃ a ox od, v = .ref a ∧ u = .ref a ∧ PySem.W.InstAt s.heap a ox C od := by
  cases h with
  | @obj a _ dx fv _ h1 h2 =>
    cases rel
    obtain ⟨mA, O, _⟩ := ins_get I.hok (e _ _ h1)
    obtain ⟨od, J, _⟩ := O.look
    exact ⟨a, _, _, rfl, rfl, J⟩
/-- x op y, both of the class -/
theorem bd_own {op : Operator} (o : OpC X.K C op.info.2 f) (F : FnOk X.prog X.w X.K X.mg X.base CX0 k f fd ps (spD X.K S)) (hb : Binds X.K fd ps []) (hr : Room j X.A) (hS : S [.obj C fs, .obj C gs] r) (hk : k ≤ j := by decide) : BinD X (binaryOp op) (.obj C fs) (.obj C gs) r := by
  intro pins s σ H x y v u Q I r1 r2 ⟨Hs, e, d1, d2, kq⟩
  obtain ⟨a, ox, od, rfl, rfl, J⟩ := inst_of I e d1 r1
  obtain ⟨b, oy, od', rfl, rfl, J'⟩ := inst_of I e d2 r2
  obtain ⟨m, Fr⟩ := I.fr
  exact PySem.W.binop_K Fr I.ok.mod.kin J J'.type o.self o.at_ o.fn (thn (runAt F (hr.mono hk) hb I I.env0 (.cons r1 (.cons r2 .nil)) e (.cons d1 (.cons d2 .nil)) hS kq) fun _ _ z => back_cmp z)
/-- the type of a datum, where it is known -/
inductive TyD (K : PySem.W.Frag) : D → Value → Prop where
  | non : TyD K .non (.type "NoneType")
  | bl (b : Bool) : TyD K (.bl b) (.type "bool")
  | int (i : Int) : TyD K (.int i) (.type "int")
  | str (x : Str) : TyD K (.str x) (.type "str")
  | lst (xs : List D) : TyD K (.lst xs) (.type "list")
  | tup (xs : List D) : TyD K (.tup xs) (.type "tuple")
  | dct (xs : List (Key × D)) : TyD K (.dct xs) (.type "dict")
  | obj {C : Addr} (fs : List (Str × D)) (cl : Cls K C) (ha : PySem.W.findIn K (.ref C) "__class__" = some (some (.builtin "object.__class__")))
      (hn : PySem.W.specialIn K (.builtin "object.__class__") "__get__" = some (some (.builtin "getset_descriptor.__get__"))) (htk : PySem.W.takesIn K (.builtin "object.__class__") = some true)
      (hm : PySem.W.mroIn K C (.type "object") = some true) : TyD K (.obj C fs) (.ref C)
theorem TyD.of {K : PySem.W.Frag} {Hs H : Hp} {v : V} {d : D} {t : Value} (h : TyD K d t) (e : Ex Hs H) (q : Den K Hs v d) : TyOf K H v t := by
  cases h with
  | non => cases q; exact .non
  | bl b => cases q; exact .bl _
  | int b => cases q; exact .int _
  | str b => cases q; exact .str _
  | lst xs => cases q with | lst a b => exact .lst (e _ _ a)
  | tup xs => cases q with | tup a b => exact .tup (e _ _ a)
  | dct xs => cases q with | dct a b => exact .dK (e _ _ a)
  | obj fs cl ha hn htk hm => cases q with | obj a b => exact .ins (e _ _ a) cl ha hn htk hm
/-- a class as a datum -/
inductive ClD : D → Value → Prop where
  | ty (n : String) : ClD (.ty n) (.type n)
  | own (C : Addr) : ClD (.adr C) (.ref C)
theorem cd_isi {c : D} {t u : Value} {b : Bool} (ht : TyD X.K d t) (hc : ClD c u) (hk : PySem.W.kitOne X.K t u = some b) : CallD X (.builtin "isinstance") [d, c] (.val (.bl b)) := callr_imp call_isi fun vs H Q ⟨Hs, e, dn, kq⟩ => by
  obtain ⟨v, v', rfl, d1, d2⟩ := two dn
  refine ⟨v, v', t, u, b, rfl, ?_, .base (ht.of e d1), hk, kq _ Hs H (Gr.refl e) (.bl b)⟩
  cases hc with
  | ty n => cases d2; exact .ty n
  | own C => cases d2; exact .own C
inductive ClDs : List D → List Value → Prop where
  | nil : ClDs [] []
  | cons {c : D} {u : Value} {cs : List D} {us : List Value} (h : ClD c u) (t : ClDs cs us) : ClDs (c :: cs) (u :: us)
theorem ClDs.of {K : PySem.W.Frag} {Hs : Hp} : ∀ {cs : List D} {us : List Value} {vs : List V}, ClDs cs us → Dens K Hs vs cs → Paired ClsV vs us
  | _, _, _, .nil, .nil => .nil
  | _, _, _, .cons (.ty n) t, .cons (.ty _) q => .cons (.ty n) (ClDs.of t q)
  | _, _, _, .cons (.own C) t, .cons (.adr _) q => .cons (.own C) (ClDs.of t q)
theorem cd_isiT {cs : List D} {t : Value} {us : List Value} {b : Bool} (ht : TyD X.K d t) (hc : ClDs cs us) (hk : PySem.W.kitAny X.K t us = some b) : CallD X (.builtin "isinstance") [d, .tup cs] (.val (.bl b)) := callr_imp call_isiT fun vs H Q ⟨Hs, e, dn, kq⟩ => by
  obtain ⟨v, v', rfl, d1, d2⟩ := two dn
  cases d2 with
  | tup a q => exact ⟨v, _, _, t, us, b, rfl, e _ _ a, hc.of q, .base (ht.of e d1), hk, kq _ Hs H (Gr.refl e) (.bl b)⟩
/-- x == y by the class's __eq__, y of any type t that is not a class below it -/
theorem looks_ty {pins : List (Addr × Obj)} {σ : L2.St} {H Hs : Hp} {s : Shared} {v : V} {u t : Value} (I : Inv X pins σ H s) (e : Ex Hs H) (ht : TyD X.K d t) (h : Den X.K Hs v d) (rel : RelV v u) : PySem.W.Looks (model X.prog X.w) s.heap (typeOf u) t := by
  cases ht with
  | non => cases h; cases rel; exact PySem.W.Looks.of_pure rfl
  | bl b => cases h; cases rel; exact PySem.W.Looks.of_pure rfl
  | int b => cases h; obtain ⟨t, rfl⟩ := rel; exact PySem.W.Looks.of_pure rfl
  | str b => cases h; obtain ⟨t, rfl⟩ := rel; exact PySem.W.Looks.of_pure rfl
  | lst xs =>
    cases h with
    | lst a b =>
      cases rel
      obtain ⟨_, its, n, _, z⟩ : _ ≤ sizeLine ∧ ∃ (its : List Value) (n : Nat), Vals _ its ∧ s.heap.get? _ = some { cls := .type "list", data := .seq its.toArray n } := I.hok _ _ (e _ _ a)
      exact (PySem.W.Looks.ld z).andThen .now
  | tup xs =>
    cases h with
    | tup a b =>
      cases rel
      obtain ⟨_, its, _, o, z, c, _⟩ := (show ObjOk X.prog X.w H s.heap _ (.tup _) from I.hok _ _ (e _ _ a))
      refine (PySem.W.Looks.ld z).andThen ?_
      rw [c]
      exact .now
  | dct xs =>
    cases h with
    | dct a b =>
      cases rel
      obtain ⟨_, _, vs, _, o, es, ep, z, c, _⟩ := (show ObjOk X.prog X.w H s.heap _ (.dK _) from I.hok _ _ (e _ _ a))
      refine (PySem.W.Looks.ld z).andThen ?_
      rw [c.1]
      exact .now
  | obj fs cl ha hn htk hm =>
    obtain ⟨a, ox, od, rfl, rfl, J⟩ := inst_of I e h rel
    exact J.type
theorem bd_cmpO {op : CmpOp} {t : Value} (hop : ∀ a b, compareOp op a b = richCompare op a b) (at_ : PySem.W.findIn X.K (.ref C) (cmpInfo op).2.1 = some (some (.ref f))) (fn : PySem.W.isFn X.K (.ref f) = true) (ht : TyD X.K d t) (nf : PySem.W.notFirst X.K C t = true)
    (F : FnOk X.prog X.w X.K X.mg X.base CX0 k f fd ps (spD X.K S)) (hb : Binds X.K fd ps []) (hr : Room j X.A) (hS : S [.obj C fs, d] r) (hk : k ≤ j := by decide) : BinD X (compareOp op) (.obj C fs) d r := by
  intro pins s σ H x y v u Q I r1 r2 ⟨Hs, e, d1, d2, kq⟩
  obtain ⟨a, ox, od, rfl, rfl, J⟩ := inst_of I e d1 r1
  obtain ⟨m, Fr⟩ := I.fr
  rw [hop]
  exact PySem.W.cmp_K (hr.mono hk).units0 Fr I.ok.mod.kin J (looks_ty I e ht d2 r2) nf at_ fn (thn (runAt F (hr.mono hk) hb I I.env0 (.cons r1 (.cons r2 .nil)) e (.cons d1 (.cons d2 .nil)) hS kq) fun _ _ z => back_cmp z)
end
end Dn
end
section
set_option Elab.async false
set_option linter.all false
set_option maxRecDepth 100000
set_option maxHeartbeats 2000000
/-! DMore: slices, f-strings, all, any, zip, enumerate, lists that grow, pairs stored, keywords, classmethods, == of data. -/
namespace Dn
open PySem PySem.Spec L2
section
variable {X : Cx} {bi : Bool} {ρ ρ1 ρ2 ρ3 : Rho} {p pos pos2 apos : Pos} {e e2 a b : Expr} {es : List Expr} {r : Res} {d : D} {k : Kn}
/-! ### all, any -/
theorem den_bools {K : PySem.W.Frag} {Hs : Hp} : ∀ {bs : List Bool} {vs : List V}, Dens K Hs vs (bs.map D.bl) → vs = bs.map V.bl
  | [], _, .nil => rfl
  | b :: bs, _, .cons h t => by
    cases h
    rw [den_bools t]
    rfl
theorem cd_all {bs : List Bool} (hc : X.calm = true := by rfl) : CallD X (.builtin "all") [.lst (bs.map D.bl)] (.val (.bl (bs.all id))) := callr_imp (cr_all hc) fun vs H Q ⟨Hs, e, dn, kq⟩ => by
  obtain ⟨v, rfl, d1⟩ := one dn
  cases d1 with
  | lst q1 q2 =>
    have := den_bools q2
    subst this
    exact ⟨_, bs, rfl, SqL.of (e _ _ q1), kq _ Hs H (Gr.refl e) (.bl _)⟩
/-! ### slices -/
def rdP (K : PySem.W.Frag) (ρ : Rho) (o : Option Int) (ρ' : Rho) : TO := fun σ H Q => ∃ io Hf Hs, EnvOk K io ρ σ Hf Hs H ∧ ∀ Hs' H', EnvOk K io ρ' σ Hf Hs' H' → ExF Hf Hs Hs' → Q o H'
def POD (X : Cx) (e : Option Expr) (ρ : Rho) (o : Option Int) (ρ' : Rho) : Prop := PO X e (rdP X.K ρ o ρ')
theorem po_imp {e : Option Expr} {t t' : TO} (h : PO X e t) (i : ∀ σ H Q, t' σ H Q → t σ H Q) : PO X e t' := ⟨fun pins s σ H Q I q => h.run pins s σ H Q I (i σ H Q q)⟩
theorem pod_none : POD X none ρ none ρ := po_imp po_none fun σ H Q ⟨io, Hf, Hs, E, k⟩ => k Hs H E ExF.refl
theorem pod_some {i : Int} (h : PD X e ρ (.val (.int i)) ρ1) : POD X (some e) ρ (some i) ρ1 := po_imp (po_some h) fun σ H Q ⟨io, Hf, Hs, E, k⟩ => ⟨io, Hf, Hs, E, fun v Hs' H' E' f q => by
  cases q
  exact ⟨i, rfl, k Hs' H' E' f⟩⟩
def cutD (xs : List D) (lo hi : Option Int) : List D := (xs.drop (HT.sIx xs.length 0 lo)).take (HT.sIx xs.length xs.length hi - HT.sIx xs.length 0 lo)
theorem dens_cut {K : PySem.W.Frag} {H : Hp} {vs : List V} {ds : List D} {lo hi : Option Int} (h : Dens K H vs ds) : Dens K H (cutV vs lo hi) (cutD ds lo hi) := by
  unfold cutV cutD
  rw [h.length]
  exact (h.drop _).take _
theorem pd_sliceL {xs : List D} {lo hi : Option Expr} {l u : Option Int} (ha : PD X a ρ (.val (.lst xs)) ρ1) (hl : POD X lo ρ1 l ρ2) (hu : POD X hi ρ2 u ρ3) : PD X (.Subscript a (.Slice lo hi none pos2) pos) ρ (.own (.lst (cutD xs l u))) ρ3 :=
  pe_imp (pe_slice sl_list ha hl hu) fun σ H Q ⟨io, Hf, Hs, E, k⟩ => ⟨io, Hf, Hs, E, fun v Hs1 H1 E1 f1 q1 => ⟨io, Hf, Hs1, E1, fun Hs2 H2 E2 f2 => ⟨io, Hf, Hs2, E2, fun Hs3 H3 E3 f3 => by
    have q2 := Den.mono (f2.trans f3).ex q1
    cases q2 with
    | lst z1 z2 =>
      refine ⟨_, _, rfl, SqL.of (E3.st _ _ z1), fun p hp => ?_⟩
      obtain ⟨E4, f4⟩ := E3.gr (Gr.newo (o := .lst _) E3.st hp)
      exact k _ _ _ E4 (((f1.trans f2).trans f3).trans f4) (E3.ret (r := .own (.lst _)) ⟨p, rfl, hp, E3.st.none hp, _, upd_same, dens_cut z2⟩)⟩⟩⟩
theorem pd_sliceS {x : Str} {lo hi : Option Expr} {l u : Option Int} (ha : PD X a ρ (.val (.str x)) ρ1) (hl : POD X lo ρ1 l ρ2) (hu : POD X hi ρ2 u ρ3) (hz : x.length ≤ 1000000) : PD X (.Subscript a (.Slice lo hi none pos2) pos) ρ (.val (.str (cutS x l u))) ρ3 :=
  pe_imp (pe_slice sl_str ha hl hu) fun σ H Q ⟨io, Hf, Hs, E, k⟩ => ⟨io, Hf, Hs, E, fun v Hs1 H1 E1 f1 q1 => ⟨io, Hf, Hs1, E1, fun Hs2 H2 E2 f2 => ⟨io, Hf, Hs2, E2, fun Hs3 H3 E3 f3 => by
    cases q1
    exact ⟨x, rfl, by rw [sizeLine_eq]; omega, k _ Hs3 H3 E3 ((f1.trans f2).trans f3) (.str _)⟩⟩⟩⟩
/-! ### f-strings -/
theorem pd_fmtS {x : Str} (h : PD X e ρ (.val (.str x)) ρ1) (hz : x.length ≤ 1000000) : PD X (.FormattedValue e (-1) none pos) ρ (.val (.str x)) ρ1 := pe_imp (pe_fmt h) fun σ H Q ⟨io, Hf, Hs, E, k⟩ => ⟨io, Hf, Hs, E, fun v Hs' H' E' f q => by
  cases q
  exact .inl ⟨x, rfl, by rw [sizeLine_eq]; omega, k _ Hs' H' E' f (.str _)⟩⟩
theorem pd_fmtI {i : Int} (h : PD X e ρ (.val (.int i)) ρ1) (hz : i.natAbs.log2 < 1920) : PD X (.FormattedValue e (-1) none pos) ρ (.val (.str (toString i))) ρ1 := pe_imp (pe_fmt h) fun σ H Q ⟨io, Hf, Hs, E, k⟩ => ⟨io, Hf, Hs, E, fun v Hs' H' E' f q => by
  cases q
  exact .inr ⟨i, rfl, hz, k _ Hs' H' E' f (.str _)⟩⟩
/-- the parts, one text each (no part changes the slots) -/
inductive PJD (X : Cx) (ρ : Rho) : List Expr → List Str → Prop where
  | nil : PJD X ρ [] []
  | cons {e : Expr} {x : Str} {es : List Expr} {xs : List Str} (h : PD X e ρ (.val (.str x)) ρ) (t : PJD X ρ es xs) : PJD X ρ (e :: es) (x :: xs)
def joinD : Str → List Str → Str
  | acc, [] => acc
  | acc, x :: xs => joinD (acc ++ x) xs
def lensD : Str → List Str → Prop
  | _, [] => True
  | acc, x :: xs => (acc ++ x).length ≤ 1000000 ∧ lensD (acc ++ x) xs
theorem pjd_pj {ρ : Rho} : ∀ {es : List Expr} {xs : List Str}, PJD X ρ es xs → ∃ ts, PJ X es ts ∧ ∀ acc io σ Hf Hs H (Q : Str → Hp → Prop), lensD acc xs → EnvOk X.K io ρ σ Hf Hs H → (∀ Hs' H', EnvOk X.K io ρ σ Hf Hs' H' → ExF Hf Hs Hs' → Q (joinD acc xs) H') → tJs ts acc σ H Q
  | _, _, .nil => ⟨[], .nil, fun acc io σ Hf Hs H Q _ E k => k Hs H E ExF.refl⟩
  | _, _, .cons (x := x) h t => by
    obtain ⟨ts, h1, h2⟩ := pjd_pj t
    refine ⟨_ :: ts, .cons h h1, fun acc io σ Hf Hs H Q l E k => ⟨io, Hf, Hs, E, fun v Hs' H' E' f q => ?_⟩⟩
    cases q
    exact ⟨x, rfl, by rw [sizeLine_eq]; have := l.1; omega, h2 _ io σ Hf Hs' H' Q l.2 E' fun Hs2 H2 E2 f2 => k Hs2 H2 E2 (f.trans f2)⟩
theorem pd_js {v1 v2 : Expr} {rest : List Expr} {xs : List Str} (h : PJD X ρ (v1 :: v2 :: rest) xs) (hl : lensD Str.empty xs) : PD X (.JoinedStr (v1 :: v2 :: rest) pos) ρ (.val (.str (joinD Str.empty xs))) ρ := by
  obtain ⟨ts, h1, h2⟩ := pjd_pj h
  exact pe_imp (pe_joined h1) fun σ H Q ⟨io, Hf, Hs, E, k⟩ => h2 _ io σ Hf Hs H _ hl E fun Hs' H' E' f => k _ Hs' H' E' f (.str _)
/-! ### lists that grow -/
theorem own_lst {K : PySem.W.Frag} {io : Option Addr} {σ : L2.St} {Hf Hs H : Hp} {i : Nat} {ds : List D} (E : EnvOk K io ρ σ Hf Hs H) (h : ρ[i]? = some (.own (.lst ds))) : ∃ a vs, σ[i]? = some (some (.ref a)) ∧ H a = some (.lst vs) ∧ Dens K Hs vs ds := by
  obtain ⟨a, h1, ⟨vs, h2, h3⟩, _⟩ := E.own i _ h
  exact ⟨a, vs, h1, h2, h3⟩
theorem ps1_append (i : Nat) {x : Str} {px : Pos} {ds : List D} (he : PD X e ρ (.val d) ρ1) (h1 : ρ1[i]? = some (.own (.lst ds)) := by rfl) (hz : ds.length ≤ 1000000) (hk : k.nx (ρ1.set i (.own (.lst (ds ++ [d])))) := by rfl) (h0 : ∃ d0, ρ[i]? = some (.own (.lst d0)) := by exact ⟨_, rfl⟩) (hN : X.N[i]? = some x := by rfl)
    (hv : Vis X.env.scope x := by first | exact Or.inl rfl | exact Or.inr (Or.inl rfl) | exact Or.inr (Or.inr rfl)) (hd : (x == ("__debug__" : Str)) = false := by decide) (hcd : (x == ("__classdict__" : Str)) = false := by decide)
    (hbase : attributeBase (.Name x px) "append" X.env (eval (.Name x px) X.env) = eval (.Name x px) X.env := by rfl)
    (hfew : ((backTo p (starEach [e] X.env)).all (fun x => !x.1) && (backToKw p (keywordEach [] X.env)).all (fun x => x.1.isSome) && decide ([e].length + ([] : List Keyword).length + (if ([] : List Keyword).isEmpty then 0 else 1) < 30)) = true := by rfl)
    (hline : (apos.endLine == p.line) = true := by rfl) (hs : starEach [e] X.env = (false, eval e X.env) :: starEach [] X.env := by rfl) (hplain : (backTo p (starEach [] X.env)).any (·.1) = false := by rfl)
    (hsw : swapsWith (.Call (.Attribute (.Name x px) "append" apos) [e] [] p) none pos.line X.env = pure false := by rfl) : PS1 X bi (.Expr (.Call (.Attribute (.Name x px) "append" apos) [e] [] p) pos) ρ k :=
  ps_imp (ps_expr (pe_bm PySem.F.plainAttrs_list PySem.F.slot_list_append PySem.F.type_list_append mt_append (pe_var hN hv hd hcd) (pa_cons he pa_nil hs) hbase hfew hline hs hplain) hsw) fun Z σ H ⟨io, Hf, Hs, hb, E, kk⟩ => by
    obtain ⟨d0, h0⟩ := h0
    obtain ⟨a, vs0, g1, g2, g3⟩ := own_lst E h0
    refine ⟨_, g1, .inl ⟨rfl, _, SqL.of g2⟩, io, Hf, Hs, E, fun v Hs1 H1 E1 f1 q1 => ?_⟩
    obtain ⟨a', vs, y1, y2, y3⟩ := own_lst E1 h1
    rw [g1] at y1
    cases y1
    exact ⟨a, vs, v, rfl, rfl, y2, by rw [y3.length, sizeLine_eq]; omega, kk.nx _ _ Hs1 _ hk (E1.change h1 g1 ⟨_, upd_same, y3.append (.cons q1 .nil)⟩) f1⟩
theorem ps1_extend (i : Nat) {x : Str} {px : Pos} {ds es' : List D} (he : PD X e ρ (.val (.lst es')) ρ1) (h1 : ρ1[i]? = some (.own (.lst ds)) := by rfl) (hz : ds.length + es'.length ≤ 1000000) (hk : k.nx (ρ1.set i (.own (.lst (ds ++ es')))) := by rfl) (h0 : ∃ d0, ρ[i]? = some (.own (.lst d0)) := by exact ⟨_, rfl⟩) (hN : X.N[i]? = some x := by rfl)
    (hv : Vis X.env.scope x := by first | exact Or.inl rfl | exact Or.inr (Or.inl rfl) | exact Or.inr (Or.inr rfl)) (hd : (x == ("__debug__" : Str)) = false := by decide) (hcd : (x == ("__classdict__" : Str)) = false := by decide)
    (hbase : attributeBase (.Name x px) "extend" X.env (eval (.Name x px) X.env) = eval (.Name x px) X.env := by rfl)
    (hfew : ((backTo p (starEach [e] X.env)).all (fun x => !x.1) && (backToKw p (keywordEach [] X.env)).all (fun x => x.1.isSome) && decide ([e].length + ([] : List Keyword).length + (if ([] : List Keyword).isEmpty then 0 else 1) < 30)) = true := by rfl)
    (hline : (apos.endLine == p.line) = true := by rfl) (hs : starEach [e] X.env = (false, eval e X.env) :: starEach [] X.env := by rfl) (hplain : (backTo p (starEach [] X.env)).any (·.1) = false := by rfl)
    (hsw : swapsWith (.Call (.Attribute (.Name x px) "extend" apos) [e] [] p) none pos.line X.env = pure false := by rfl) : PS1 X bi (.Expr (.Call (.Attribute (.Name x px) "extend" apos) [e] [] p) pos) ρ k :=
  ps_imp (ps_expr (pe_bm PySem.F.plainAttrs_list PySem.F.slot_list_extend PySem.F.type_list_extend mt_extend (pe_var hN hv hd hcd) (pa_cons he pa_nil hs) hbase hfew hline hs hplain) hsw) fun Z σ H ⟨io, Hf, Hs, hb, E, kk⟩ => by
    obtain ⟨d0, h0⟩ := h0
    obtain ⟨a, vs0, g1, g2, g3⟩ := own_lst E h0
    refine ⟨_, g1, .inl ⟨rfl, _, SqL.of g2⟩, io, Hf, Hs, E, fun v Hs1 H1 E1 f1 q1 => ?_⟩
    obtain ⟨a', vs, y1, y2, y3⟩ := own_lst E1 h1
    rw [g1] at y1
    cases y1
    have q0 : Den X.K Hs1 v (.lst es') := q1
    cases q0 with
    | lst z1 z2 => exact ⟨a, _, vs, _, rfl, rfl, y2, E1.st _ _ z1, by rw [y3.length, z2.length, sizeLine_eq]; omega, kk.nx _ _ Hs1 _ hk (E1.change h1 g1 ⟨_, upd_same, y3.append z2⟩) f1⟩
/-! ### pairs stored -/
theorem ps1_par {x y : Str} {px py pt : Pos} {kt k2 : Nat} {pt2 : Pos} {d' : D} (i j : Nat) (ha : PAD X [a, b] ρ [d, d'] ρ1) (hN : X.N.Nodup) (hk : k.nx ((ρ1.set i (.val d)).set j (.val d')) := by rfl) (hi : X.N[i]? = some x := by rfl) (hj : X.N[j]? = some y := by rfl) (hij : i ≠ j := by decide)
    (hx : X.env.scope.names.lookup x = some .local := by rfl) (hy : X.env.scope.names.lookup y = some .local := by rfl) (hio : (i ≠ 0 ∧ j ≠ 0) ∨ bi = false := by first | exact Or.inl (by decide) | exact Or.inr rfl) (hc : X.calm = true := by rfl)
    (hw : swappedStores [.Tuple [.Name x px, .Name y py] kt pt] (.Tuple [a, b] k2 pt2) X.env = pure (some [x, y]) := by rfl)
    (hs : swapsWithSole [.Tuple [.Name x px, .Name y py] kt pt] (.Tuple [a, b] k2 pt2) pos.line X.env = pure false := by rfl) : PS1 X bi (.Assign [.Tuple [.Name x px, .Name y py] kt pt] (.Tuple [a, b] k2 pt2) pos) ρ k :=
  ps_imp (ps_par hc hN hi hj hij hx hy ha hw hs) fun Z σ H ⟨io, Hf, Hs, hb, E, kk⟩ => ⟨io, Hf, Hs, E, fun vs Hs1 H1 E1 f1 q1 => by
    obtain ⟨v, v', rfl, d1, d2⟩ := two q1
    refine ⟨v, v', rfl, kk.nx _ _ Hs1 H1 hk ((E1.setv d1 ?_).setv d2 ?_) f1⟩
    · rcases hio with z | z
      · exact .inl z.1
      · exact .inr (hb z)
    · rcases hio with z | z
      · exact .inl z.2
      · exact .inr (hb z)⟩
/-! ### zip, enumerate -/
theorem pid_zip {xs ys : List D} {elts : List Expr} {kk : Nat} {tpos : Pos} (hm : X.mg "zip" = none) (ha : PAD X [e, e2] ρ [.lst xs, .lst ys] ρ1) (hg : Gl X "zip" := by rfl)
    (hs : starEach [e, e2] X.env = (false, eval e X.env) :: starEach [e2] X.env := by rfl) (hpl : (backTo pos (starEach [e2] X.env)).any (·.1) = false := by rfl) :
    PID X (.Tuple elts kk tpos) (.Call (.Name "zip" p) [e, e2] [] pos) ρ (List.zipWith (fun x y => D.tup [x, y]) xs ys) ρ1 :=
  pi_imp (pi_zip hg hm ha hs hpl) fun σ H Q ⟨io, Hf, Hs, E, k⟩ => ⟨io, Hf, Hs, E, fun vs Hs1 H1 E1 f1 q1 => by
    obtain ⟨v, v', rfl, d1, d2⟩ := two q1
    cases d1 with
    | lst a1 a2 =>
      cases d2 with
      | lst b1 b2 =>
        refine ⟨_, _, _, _, rfl, SqL.of (E1.st _ _ a1), SqL.of (E1.st _ _ b1), k _ Hs1 H1 E1 f1 ?_⟩
        refine pairs_walk (walk_zip rfl) (by rw [List.length_zipWith, a2.length, b2.length]) (fun H h => ⟨SqL.of (h _ _ a1), SqL.of (h _ _ b1)⟩) fun i x y hi hx hy => ?_
        obtain ⟨dx, z1, z2⟩ := a2.get' hx
        obtain ⟨dy, z3, z4⟩ := b2.get' hy
        exact ⟨dx, dy, by rw [List.getElem?_zipWith, z1, z3], z2, z4⟩⟩
theorem pid_enum {xs : List D} {elts : List Expr} {kk : Nat} {tpos : Pos} (hm : X.mg "enumerate" = none) (ha : PAD X [e] ρ [.lst xs] ρ1) (hg : Gl X "enumerate" := by rfl) (hs : starEach [e] X.env = [(false, eval e X.env)] := by rfl) :
    PID X (.Tuple elts kk tpos) (.Call (.Name "enumerate" p) [e] [] pos) ρ (List.zipWith (fun x y => D.tup [x, y]) (rng 0 xs.length) xs) ρ1 :=
  pi_imp (pi_enum hg hm ha hs) fun σ H Q ⟨io, Hf, Hs, E, k⟩ => ⟨io, Hf, Hs, E, fun vs Hs1 H1 E1 f1 q1 => by
    obtain ⟨v, rfl, d1⟩ := one q1
    cases d1 with
    | lst a1 a2 =>
      refine ⟨_, _, rfl, SqL.of (E1.st _ _ a1), k _ Hs1 H1 E1 f1 ?_⟩
      refine pairs_walk walk_enum (by rw [List.length_zipWith, rng_len, a2.length]; omega) (fun H h => SqL.of (h _ _ a1)) fun i x y hi hx hy => ?_
      obtain ⟨dy, z3, z4⟩ := a2.get' hy
      cases hx
      refine ⟨.int i, dy, ?_, .int _, z4⟩
      rw [List.getElem?_zipWith, z3, rng_get (by rw [← a2.length]; exact hi)]
      simp⟩
/-! ### == of data without instances -/
mutual
inductive Pl : D → PyData → Prop
  | non : Pl .non .none
  | bl (b : Bool) : Pl (.bl b) (.bool b)
  | int (i : Int) : Pl (.int i) (.int i)
  | str (x : Str) : Pl (.str x) (.str x)
  | lst {ds : List D} {ps : List PyData} : Pls ds ps → Pl (.lst ds) (.list ps)
  | tup {ds : List D} {ps : List PyData} : Pls ds ps → Pl (.tup ds) (.tuple ps)
inductive Pls : List D → List PyData → Prop
  | nil : Pls [] []
  | cons {d : D} {p : PyData} {ds : List D} {ps : List PyData} : Pl d p → Pls ds ps → Pls (d :: ds) (p :: ps)
end
mutual
theorem Pl.dp {K : PySem.W.Frag} {Hs H : Hp} (e : Ex Hs H) : ∀ {d : D} {p : PyData} {v : V}, Pl d p → Den K Hs v d → Dp K H v p
  | _, _, _, .non, .non => .non
  | _, _, _, .bl b, .bl _ => .bl b
  | _, _, _, .int i, .int _ => .int i
  | _, _, _, .str x, .str _ => .str x
  | _, _, _, .lst h, .lst q1 q2 => .lst (SqL.of (e _ _ q1)) (Pls.dp e h q2)
  | _, _, _, .tup h, .tup q1 q2 => .tup (SqT.of (e _ _ q1)) (Pls.dp e h q2)
theorem Pls.dp {K : PySem.W.Frag} {Hs H : Hp} (e : Ex Hs H) : ∀ {ds : List D} {ps : List PyData} {vs : List V}, Pls ds ps → Dens K Hs vs ds → DpAll K H vs ps
  | _, _, _, .nil, .nil => .nil
  | _, _, _, .cons h t, .cons q r => .cons (Pl.dp e h q) (Pls.dp e t r)
end
end
end Dn
end
section
set_option Elab.async false
set_option linter.all false
set_option maxRecDepth 100000
set_option maxHeartbeats 2000000
/-! DKeys: an int on the left of an instance, != by __eq__, calls with keywords, classmethods. -/
namespace Dn
open PySem PySem.Spec L2
end Dn
end
section
set_option Elab.async false
set_option linter.all false
set_option maxRecDepth 100000
set_option maxHeartbeats 2000000
/-! DKw: calls with keywords alone, classmethods, repr of lists of data, the law's own call. -/
namespace Dn
open PySem PySem.Spec L2
/-! ### keywords: values put in the parameters' order -/
def pk {α : Type} (ix : List Nat) (l : List α) : List α := ix.filterMap fun i => l[i]?
theorem vals_get : ∀ {vs : List V} {us : List Value} (i : Nat), Vals vs us → (vs[i]? = none ∧ us[i]? = none) ∨ ∃ v u, vs[i]? = some v ∧ us[i]? = some u ∧ RelV v u
  | _, _, _, .nil => .inl ⟨by simp, by simp⟩
  | _, _, 0, .cons a _ => .inr ⟨_, _, rfl, rfl, a⟩
  | _, _, i + 1, .cons _ b => by
    rcases vals_get i b with ⟨h1, h2⟩ | ⟨v, u, h1, h2, h3⟩
    · exact .inl ⟨by simpa using h1, by simpa using h2⟩
    · exact .inr ⟨v, u, by simpa using h1, by simpa using h2, h3⟩
theorem vals_pk : ∀ (ix : List Nat) {vs : List V} {us : List Value}, Vals vs us → Vals (pk ix vs) (pk ix us)
  | [], _, _, _ => .nil
  | i :: ix, vs, us, h => by
    unfold pk
    rcases vals_get i h with ⟨h1, h2⟩ | ⟨v, u, h1, h2, h3⟩
    · rw [List.filterMap_cons_none h1, List.filterMap_cons_none h2]
      exact vals_pk ix h
    · rw [List.filterMap_cons_some h1, List.filterMap_cons_some h2]
      exact .cons h3 (vals_pk ix h)
theorem dens_pk {K : PySem.W.Frag} {H : Hp} : ∀ (ix : List Nat) {vs : List V} {ds : List D}, Dens K H vs ds → Dens K H (pk ix vs) (pk ix ds)
  | [], _, _, _ => .nil
  | i :: ix, vs, ds, h => by
    unfold pk
    cases e : ds[i]? with
    | none =>
      have e2 : vs[i]? = none := by
        rw [List.getElem?_eq_none_iff] at e ⊢
        rw [h.length]; exact e
      rw [List.filterMap_cons_none e2, List.filterMap_cons_none e]
      exact dens_pk ix h
    | some d =>
      obtain ⟨v, h1, h2⟩ := h.get e
      rw [List.filterMap_cons_some h1, List.filterMap_cons_some e]
      exact .cons h2 (dens_pk ix h)
/-- n values first, then the keywords' values (names ks); ix tells from where each parameter has its value -/
def KBp (K : PySem.W.Frag) (fd : FuncData) (ps : List Str) (n : Nat) (ks : List Str) (ix : List Nat) : Prop :=
  ∀ (s : Shared) (us ws : List Value), K.In s.heap → us.length = n → ws.length = ks.length → BindsTo s fd ⟨us, ks.zip ws⟩ (ps.zip (pk ix (us ++ ws)))
theorem KBp.kbn {K : PySem.W.Frag} {fd : FuncData} {ps ks : List Str} {n : Nat} {ix : List Nat} (h : KBp K fd ps n ks ix) : KBn K fd ps n ks (fun us ws => pk ix (us ++ ws)) (fun vs zs => pk ix (vs ++ zs)) :=
  ⟨h, fun r1 r2 => vals_pk ix (r1.append r2)⟩
section
variable {K : PySem.W.Frag} {x qual : Str} {st : Stmt} {f : Addr} {fd : FuncData} {ps ks : List Str} {n : Nat} {ix : List Nat} {dvs : List V} {kws : List (Str × V)}
theorem kbp_of (F : Fun K x qual st f fd) (h : ∀ (kV doc pm : Value) (an : Option Addr) (cdv ct : Value) (us ws : List Value), us.length = n → ws.length = ks.length →
    bindArgs (PySem.W.fnOf x qual (defArgs st) (defBody st) (defScope st) .none kV doc pm an cdv ct) ⟨us, ks.zip ws⟩ = pure (ps.zip (pk ix (us ++ ws)))) : KBp K fd ps n ks ix := by
  obtain ⟨oc, od, kV, doc, pm, an, cdv, ct, osl, rfl, lk, hcd⟩ := F.ex
  exact fun s us ws _ l1 l2 => .of_eq (h kV doc pm an cdv ct us ws l1 l2)
end
structure CalK (P : Program) (w : World) (K : PySem.W.Frag) (mg : Str → Option Value) (base : Heap) (k : Nat) (x : Str) (sp : Sp) (ks : List Str) (ix : List Nat) : Prop where
  ex : ∃ (f : Addr) (fd : FuncData) (ps : List Str), FnOk P w K mg base CX0 k f fd ps sp ∧ mg x = some (.ref f) ∧ PySem.W.keepIn K (.ref f) = true ∧ KBp K fd ps 0 ks ix
def PKD (X : Cx) (kws : List Keyword) (ρ : Rho) (ds : List D) (ρ' : Rho) : Prop := PK X kws (rdA X.K ρ ds ρ')
section
variable {X : Cx} {ρ ρ1 ρ2 : Rho} {pos p apos kpos : Pos} {e o : Expr} {es : List Expr} {kws : List Keyword} {r : Res} {d : D} {as ds : List D} {x m : Str} {nm : Option Str} {C : Addr} {k j : Nat} {S : List D → Res → Prop} {T : D → List D → Res → D → Prop} {ks : List Str} {ix : List Nat} {t t' : TA}
theorem pkk_imp (h : PK X kws t) (i : ∀ σ H Q, t' σ H Q → t σ H Q) : PK X kws t' := ⟨fun pos pins s σ H Q I q => h.run pos pins s σ H Q I (i σ H Q q)⟩
theorem pkd_nil : PKD X [] ρ [] ρ := pkk_imp pk_nil fun σ H Q ⟨io, Hf, Hs, E, k⟩ => k [] Hs H E ExF.refl .nil
theorem pkd_cons (h1 : PD X e ρ (.val d) ρ1) (h2 : PKD X kws ρ1 ds ρ2) : PKD X (⟨nm, e, kpos⟩ :: kws) ρ (d :: ds) ρ2 :=
  pkk_imp (pk_cons h1 h2) fun σ H Q ⟨io, Hf, Hs, E, kk⟩ => ⟨io, Hf, Hs, E, fun v Hs1 H1 E1 f1 q1 => ⟨io, Hf, Hs1, E1, fun vs Hs2 H2 E2 f2 q2 => kk _ Hs2 H2 E2 (f1.trans f2) (.cons (Den.mono f2.ex q1) q2)⟩⟩
end
/-! ### the rules with readings -/
def tCallK0 (n : Nat) (sp : Sp) (ix : List Nat) (tk : TA) : TE := fun σ H Q => tk σ H fun zs H2 => zs.length = n ∧ sp (pk ix zs) H2 Q E0
section
variable {X : Cx} {pos p apos : Pos} {e o : Expr} {es : List Expr} {kws : List Keyword} {x m : Str} {C : Addr} {k j n : Nat} {sp : Sp} {ks : List Str} {ix : List Nat} {ta : TE} {t tk : TA}
theorem pe_callK0 (c : CalK X.prog X.w X.K X.mg X.base k x sp ks ix) (hr : Room j X.A) (hk : k ≤ j) (hg : Gl X x) (hkw : PK X kws tk) (hall : (backToKw pos (keywordEach kws X.env)).all (·.1.isSome) = true := by rfl) (hks : (backToKw pos (keywordEach kws X.env)).filterMap (·.1) = ks := by rfl)
    (hpl : ((backTo pos (starEach [] X.env)).any (·.1) || (backToKw pos (keywordEach kws X.env)).any (·.1.isNone)) = false := by rfl) (hdb : (x == ("__debug__" : Str)) = false := by decide) : PE X (.Call (.Name x p) [] kws pos) (tCallK0 ks.length sp ix tk) := by
  obtain ⟨f, fd, ps, F, hm, kp, hb⟩ := c.ex
  refine ⟨fun pins s σ H Q I h => wpAny_Call_Name_kw (ld_glob I hg hm ?_ hdb)⟩
  refine PySem.W.callWith_KW0 (h₀ := X.base) I.ok.mod.kin kp hall ?_ hpl
  refine thn (hkw.run pos pins s σ H _ I h) fun ws s2 ⟨zs, H2, I2, rz, l2, q2⟩ => ⟨I2.kIn, ?_⟩
  rw [hks]
  exact run_fnN (us := []) (vs := []) F (hr.mono hk) hb.kbn pass0 I2 .nil rz rfl l2 q2
end
/-! ### over data -/
section
variable {X : Cx} {ρ ρ1 ρ2 : Rho} {pos p apos : Pos} {e o : Expr} {es : List Expr} {kws : List Keyword} {r : Res} {as : List D} {x m : Str} {C : Addr} {k j n : Nat} {S : List D → Res → Prop} {T : D → List D → Res → D → Prop} {ks : List Str} {ix : List Nat}
/-- f(k = e, ..) -/
theorem pd_callK (c : CalK X.prog X.w X.K X.mg X.base k x (spD X.K S) ks ix) (hr : Room j X.A) (ha : PKD X kws ρ as ρ1) (hS : S (pk ix as) r) (hlen : as.length = ks.length := by rfl) (hk : k ≤ j := by decide) (hg : Gl X x := by rfl)
    (hall : (backToKw pos (keywordEach kws X.env)).all (·.1.isSome) = true := by rfl) (hks : (backToKw pos (keywordEach kws X.env)).filterMap (·.1) = ks := by rfl)
    (hpl : ((backTo pos (starEach [] X.env)).any (·.1) || (backToKw pos (keywordEach kws X.env)).any (·.1.isNone)) = false := by rfl) (hdb : (x == ("__debug__" : Str)) = false := by decide) : PD X (.Call (.Name x p) [] kws pos) ρ r ρ1 :=
  pe_imp (pe_callK0 c hr hk hg ha hall hks hpl hdb) fun σ H Q ⟨io, Hf, Hs, E, kk⟩ => ⟨io, Hf, Hs, E, fun vs Hs1 H1 E1 f1 q1 => ⟨q1.length.trans hlen, _, r, Hs1, hS, E1.st, dens_pk ix q1, fun w Hs2 H2 g q => by
    obtain ⟨E2, f2⟩ := E1.gr g
    exact kk w Hs2 H2 E2 (f1.trans f2) (E1.ret q)⟩⟩
end
/-! ### repr of a list of data -/
end Dn
end
section
set_option Elab.async false
set_option linter.all false
set_option maxRecDepth 100000
set_option maxHeartbeats 2000000
/-! DEnd: the law's def is called by nobody: no guard stands around it. -/
namespace Dn
open PySem PySem.Spec L2
open PyProof.Rows (IntsAre AllBare)
section
variable {P : Program} {w : World} {K : PySem.W.Frag} {mg mb : Str → Option Value} {k n : Nat} {fa a : Addr} {fd : FuncData} {x : Str} {sp : Sp} {s1 : Shared} {vs : List Value} {ns : List Int}
abbrev scrO (vs : List Value) : Obj := { cls := .type "list", data := .seq vs.toArray }
/-- the script, if no object of the module is it -/
noncomputable def scr (K : PySem.W.Frag) (a : Addr) (vs : List Value) (ns : List Int) : Hp := fun b => open Classical in if b = a ∧ K.lookup a = none then some (.frz (scrO vs) (.lst (ns.map V.int))) else none
theorem scr_some {b : Addr} {u : HO} (h : scr K a vs ns b = some u) : b = a ∧ K.lookup a = none ∧ u = .frz (scrO vs) (.lst (ns.map V.int)) := by
  unfold scr at h
  split at h
  · rename_i q
    cases h
    exact ⟨q.1, q.2, rfl⟩
  · cases h
theorem scr_at (h : K.lookup a = none) : scr K a vs ns a = some (.frz (scrO vs) (.lst (ns.map V.int))) := if_pos ⟨rfl, h⟩
theorem scr_only : Only (scr K a vs ns) := fun b => by
  cases q : scr K a vs ns b with
  | none => exact .inl rfl
  | some u => exact .inr ⟨_, _, by rw [(scr_some q).2.2]⟩
theorem scr_sq {h : Heap} (KX : K.In h) (ha : h.get? a = some (scrO vs)) (hi : IntsAre vs ns) (hl : ns.length ≤ sizeLine) : SqL K (scr K a vs ns) a (ns.map V.int) := by
  have rv : Vals (ns.map V.int) vs := vals_ints hi
  cases q : K.lookup a with
  | none => exact .inl (.inr ⟨_, scr_at q⟩)
  | some o =>
    have e := KX a o q
    rw [ha] at e
    cases e
    exact .inr ⟨_, vs.toArray, _, q, rfl, rfl, rfl, by rw [List.size_toArray, hi.length]; exact hl, by simpa using rv⟩
theorem law_callB (KX : K.In s1.heap) (hns : s1.heap.Ns mainGlobals mg) (hb : s1.heap.Ns builtinsNs mb) (hbb : ∀ y : Str, y ≠ "__name__" → mb y = bootBuiltins y) (hlim : s1.heap.NoLimit) (hg : s1.gens = #[]) (ha : s1.heap.get? a = some (scrO vs)) (hi : IntsAre vs ns) (hl : ns.length ≤ sizeLine)
    (hr : Room k callerA) (F : ∀ base : Heap, K.In base → base.Ns mainGlobals mg → FnB true P w K mg base k fa fd [x] sp) (hbind : ∀ (s : Shared) (u : Value), BindsTo s fd ⟨[u], []⟩ [(x, u)]) (hsp : ∀ H : Hp, Only H → SqL K H a (ns.map V.int) → sp [.ref a] H (fun v _ => v = .bl true) E0) :
    codeAny (model P w) callerA (.call (.ref fa) ⟨[.ref a], []⟩) (fun r s' => r = .ok (.ret (.bool true)) ∧ OldK s1.heap s'.heap ∧ s'.os = s1.os ∧ AllBare s'.gens) s1 := by
  have free : ∀ {b : Addr} {o : Obj}, s1.heap.get? b = some o → (b = a → K.lookup a = none → False) → scr K a vs ns b = none := fun {b o} e n => by
    cases q : scr K a vs ns b with
    | none => rfl
    | some u => exact (n (scr_some q).1 (scr_some q).2.1).elim
  have nsH : ∀ {b : Addr} {m : Str → Option Value}, s1.heap.Ns b m → (hidT s1.heap (scr K a vs ns)).Ns b m := fun {b m} ⟨o, es, ep, e, d, r⟩ => ⟨o, es, ep, hidT_get e (free e fun z _ => by
    subst z
    rw [ha] at e
    cases e
    cases d), d, r⟩
  have kinH : K.In (hidT s1.heap (scr K a vs ns)) := fun b o e => hidT_get (KX b o e) (free (KX b o e) fun z n => by
    subst z
    rw [n] at e
    cases e)
  have okH : HOk P w (scr K a vs ns) s1.heap := fun b u z => by
    obtain ⟨rfl, _, rfl⟩ := scr_some z
    exact ⟨ha, by rw [List.length_map]; exact hl, vs, _, vals_ints hi, ha⟩
  have modH : Mod K mg (hidT s1.heap (scr K a vs ns)) := ⟨kinH, nsH hns, ⟨mb, nsH hb, hbb⟩, by
    obtain ⟨mc, h1, h2⟩ := hlim
    exact ⟨mc, nsH h1, h2⟩⟩
  have e0 : Env0 P w K mg (hidT s1.heap (scr K a vs ns)) callerA [] s1 (scr K a vs ns) := ⟨rfl, modH, fun b o e => of_hidT e, Nat.le_of_eq (hidT_size _ _), trivial, fun b hb => absurd (show b ∈ ([] : List Addr) from hb) (by simp), okH, .of_eq hg⟩
  refine codeAny_mono ((F _ kinH (nsH hns)).run callerA [] s1 _ ⟨[.ref a], []⟩ [.ref a] [.ref a] _ hr (fun _ => rfl) e0 (hbind s1 (.ref a)) (.cons rfl .nil) (hsp _ scr_only (scr_sq KX ha hi hl))) fun r s' z => ?_
  cases r with
  | error er => exact False.elim z
  | ok fl =>
    cases fl with
    | next => exact False.elim z
    | brk => exact False.elim z
    | cont => exact False.elim z
    | ret u =>
      obtain ⟨v, H', os, bare, un, ok2, rel, e⟩ := z
      have e' : v = .bl true := e
      subst e'
      obtain rfl : u = Value.bool true := rel
      refine ⟨rfl, OldK.of_keep fun b o e => ?_, os, bare⟩
      cases q : scr K a vs ns b with
      | none => exact un.keep b o e q (by intro z; exact absurd (show b ∈ ([] : List Addr) from z) (by simp)) (by simp)
      | some u =>
        obtain ⟨rfl, _, rfl⟩ := scr_some q
        obtain ⟨e2, _⟩ := ok2 b _ (un.frzs b _ _ q)
        rw [ha] at e
        cases e
        exact e2
end
/-- the goal that the head leaves; the def may use that no guard stands; of the script's numbers the size is known -/
theorem walk_D {l : PySem.W.OpenLaw} {n k : Nat} {q : Program} {loose : List Str} {XP : (Str → Option Value) → Heap → Prop} {YP : World → Heap → Prop} {d : DefRec} {K : Params → PySem.W.Frag} {sp : PySem.W.Frag → Sp} {x : Str} (hn : l.most = some n) (hdf : d.params.defaults = []) (hY : ∀ (w : World) (h : Heap), YP w h → (K w.params).In h)
    (F : ∀ (w : World) (mg : Str → Option Value) (fa : Addr) (h : Heap), (K w.params).In h → h.Ns mainGlobals mg → mg d.name = some (.ref fa) →
      ∃ fd : FuncData, (∀ (s : Shared) (u : Value), BindsTo s fd ⟨[u], []⟩ [(x, u)]) ∧ ∀ base : Heap, (K w.params).In base → base.Ns mainGlobals mg → FnB true l.prog w (K w.params) mg base k fa fd [x] (sp (K w.params)))
    (hsp : ∀ (K : PySem.W.Frag) (H : Hp) (a : Addr) (ns : List Int), ns.length ≤ n → (∀ z ∈ ns, Builtin.Int.intBits z ≤ 1048576) → SqL K H a (ns.map V.int) → sp K [.ref a] H (fun v _ => v = .bl true) E0) (hr : Room k callerA := by exact ⟨rfl, by decide, by decide⟩) (hn2 : n ≤ sizeLine := by decide) :
    PySem.W.WalkO q loose XP YP l.row.toRowW d [] (fun f vs => PySem.call f vs) := by
  refine Att.attach_callB hn hdf fun w s0 s1 mg mb fa o pm cd doc a vs ns G Y ho hd hcd hmg hobj hints hlen hbits hg => ?_
  obtain ⟨fd, hb, hF⟩ := F w mg fa _ (hY w _ Y) G.T.g hmg
  exact law_callB (hY w _ Y) G.T.g G.T.b G.T.builtins G.T.nolimit hg hobj hints (Nat.le_trans hlen hn2) hr hF hb fun H _ hS => hsp _ H a ns hlen hbits hS
theorem dens_ints {K : PySem.W.Frag} {H : Hp} : ∀ ns : List Int, Dens K H (ns.map V.int) (ns.map D.int)
  | [] => .nil
  | i :: ns => .cons (.int i) (dens_ints ns)
/-- the law's promise: a list of ints in, True out -/
def spLaw (m : Nat) (K : PySem.W.Frag) : Sp := spD K fun ds r => ∃ ns : List Int, ds = [.lstK (ns.map D.int)] ∧ ns.length ≤ m ∧ (∀ z ∈ ns, Builtin.Int.intBits z ≤ 1048576) ∧ r = .val (.bl true)
theorem spLaw_of {m : Nat} {K : PySem.W.Frag} {H : Hp} {a : Addr} {ns : List Int} (h1 : ns.length ≤ m) (h2 : ∀ z ∈ ns, Builtin.Int.intBits z ≤ 1048576) (hS : SqL K H a (ns.map V.int)) : spLaw m K [.ref a] H (fun v _ => v = .bl true) E0 :=
  ⟨_, _, H, ⟨ns, rfl, h1, h2, rfl⟩, Ex.refl _, .cons (.lstK hS (dens_ints ns)) .nil, fun w Hs' H' g z => by
    have z' : Den K Hs' w (.bl true) := z
    cases z'
    rfl⟩
end Dn
end
section
set_option Elab.async false
set_option linter.all false
set_option maxRecDepth 100000
set_option maxHeartbeats 2000000
/-! DRat: the plain law of ratios: lowest terms, sizes. -/
namespace Dn
open PySem PySem.Spec L2
/-! ### sizes -/
def Bd (n : Nat) (i : Int) : Prop := i.natAbs < 2 ^ n
theorem Bd.mono {m n : Nat} {i : Int} (h : Bd m i) (l : m ≤ n) : Bd n i := Nat.lt_of_lt_of_le h (Nat.pow_le_pow_right (by decide) l)
theorem Bd.log {n m : Nat} {i : Int} (h : Bd n i) (l : n ≤ m) (hm : 0 < m := by decide) : i.natAbs.log2 < m := by
  by_cases z : i.natAbs = 0
  · rw [z]; exact hm
  · exact Nat.lt_of_lt_of_le ((Nat.log2_lt z).mpr h) l
theorem Bd.add {m : Nat} {i j : Int} (h : Bd m i) (q : Bd m j) : Bd (m + 1) (i + j) := by
  have e := Int.natAbs_add_le i j
  unfold Bd at *
  rw [Nat.pow_succ]
  omega
theorem Bd.sub {m : Nat} {i j : Int} (h : Bd m i) (q : Bd m j) : Bd (m + 1) (i - j) := by
  have e := Int.natAbs_sub_le i j
  unfold Bd at *
  rw [Nat.pow_succ]
  omega
theorem Bd.mul {m n : Nat} {i j : Int} (h : Bd m i) (q : Bd n j) : Bd (m + n) (i * j) := by
  unfold Bd at *
  rw [Int.natAbs_mul, Nat.pow_add]
  exact Nat.mul_lt_mul'' h q
theorem Bd.neg {m : Nat} {i : Int} (h : Bd m i) : Bd m (-i) := by
  unfold Bd at *
  rwa [Int.natAbs_neg]
theorem Bd.cmul {m n : Nat} {i j : Int} (h : Bd m i) (q : Bd n j) (l : m + n ≤ 100000 := by decide) : CMulW i j := by
  have a := h.log (m := m + 1) (by omega) (by omega)
  have b := q.log (m := n + 1) (by omega) (by omega)
  unfold CMulW
  omega
theorem Bd.cdiv {m : Nat} {j : Int} (i : Int) (h : Bd m j) (n : j ≠ 0) (l : m ≤ 9000 := by decide) : CDivA i j := ⟨n, h.log l⟩
def Sz (n : Nat) (q : Rat) : Prop := Bd n q.num ∧ Bd n (q.den : Int)
theorem Sz.mono {m n : Nat} {q : Rat} (h : Sz m q) (l : m ≤ n) : Sz n q := ⟨h.1.mono l, h.2.mono l⟩
/-! ### lowest terms -/
/-- the divisor: the greatest common one, with the bottom's sign -/
def sgcd (t b : Int) : Int := if b < 0 then 0 - (Nat.gcd t.natAbs b.natAbs : Int) else (Nat.gcd t.natAbs b.natAbs : Int)
theorem sgcd_ne {t b : Int} (h : b ≠ 0) : sgcd t b ≠ 0 := by
  have : 0 < Nat.gcd t.natAbs b.natAbs := Nat.gcd_pos_of_pos_right _ (by omega)
  unfold sgcd
  split <;> omega
theorem sgcd_bd {n : Nat} {t b : Int} (h : b ≠ 0) (q : Bd n b) : Bd n (sgcd t b) := by
  have : Nat.gcd t.natAbs b.natAbs ≤ b.natAbs := Nat.gcd_le_right _ (by omega)
  unfold Bd at *
  unfold sgcd
  split <;> omega
theorem fdiv_exact {i g c : Int} (hg : g ≠ 0) (h : i = g * c) : i.fdiv g = c := by
  rw [h, Int.mul_comm, Int.mul_fdiv_cancel _ hg]
theorem low_parts (t b : Int) (hb : b ≠ 0) : ∃ u v : Int, t = (Nat.gcd t.natAbs b.natAbs : Nat) * u ∧ b = (Nat.gcd t.natAbs b.natAbs : Nat) * v ∧ 0 < Nat.gcd t.natAbs b.natAbs ∧ (Rat.divInt t b).num = b.sign * u ∧ ((Rat.divInt t b).den : Int) = b.sign * v := by
  have hg : 0 < Nat.gcd t.natAbs b.natAbs := Nat.gcd_pos_of_pos_right _ (by omega)
  obtain ⟨u, hu⟩ : ((Nat.gcd t.natAbs b.natAbs : Nat) : Int) ∣ t := by have h : ((Int.gcd t b : Nat) : Int) ∣ t := Int.gcd_dvd_left ..; exact h
  obtain ⟨v, hv⟩ : ((Nat.gcd t.natAbs b.natAbs : Nat) : Int) ∣ b := by have h : ((Int.gcd t b : Nat) : Int) ∣ b := Int.gcd_dvd_right ..; exact h
  refine ⟨u, v, hu, hv, hg, ?_, ?_⟩
  · rw [Rat.num_divInt, Int.gcd_comm]
    show b.sign * t / ((Nat.gcd t.natAbs b.natAbs : Nat) : Int) = _
    generalize Nat.gcd t.natAbs b.natAbs = g at *
    rw [hu, Int.mul_left_comm]
    exact Int.mul_ediv_cancel_left _ (by omega)
  · have d := Rat.den_divInt t b
    rw [if_neg hb, Int.gcd_comm] at d
    rw [d]
    show ((b.natAbs / Nat.gcd t.natAbs b.natAbs : Nat) : Int) = _
    generalize hgg : Nat.gcd t.natAbs b.natAbs = g at *
    have hs : b.sign * b = (b.natAbs : Int) := by
      rcases Int.lt_or_gt_of_ne hb with q | q
      · rw [Int.sign_eq_neg_one_of_neg q]; omega
      · rw [Int.sign_eq_one_of_pos q]; omega
    have : (b.natAbs : Int) = (g : Int) * (b.sign * v) := by
      rw [← hs, Int.mul_left_comm, ← hv]
    rw [Int.natCast_ediv, this]
    exact Int.mul_ediv_cancel_left _ (by omega)
theorem low_both (t b : Int) (hb : b ≠ 0) : t.fdiv (sgcd t b) = (Rat.divInt t b).num ∧ b.fdiv (sgcd t b) = ((Rat.divInt t b).den : Int) := by
  obtain ⟨u, v, hu, hv, hg, e1, e2⟩ := low_parts t b hb
  have hne := sgcd_ne (t := t) hb
  rw [e1, e2]
  unfold sgcd at *
  by_cases n : b < 0
  · rw [if_pos n] at hne ⊢
    rw [Int.sign_eq_neg_one_of_neg n]
    exact ⟨fdiv_exact hne (by generalize Nat.gcd t.natAbs b.natAbs = g at *; rw [hu]; rw [Int.zero_sub, Int.neg_mul, Int.neg_mul, Int.mul_neg, Int.neg_neg, Int.one_mul]), fdiv_exact hne (by generalize Nat.gcd t.natAbs b.natAbs = g at *; rw [hv]; rw [Int.zero_sub, Int.neg_mul, Int.neg_mul, Int.mul_neg, Int.neg_neg, Int.one_mul])⟩
  · rw [if_neg n] at hne ⊢
    rw [Int.sign_eq_one_of_pos (by omega), Int.one_mul, Int.one_mul]
    exact ⟨fdiv_exact hne hu, fdiv_exact hne hv⟩
theorem part_le {g : Nat} {t u s : Int} (hg : 0 < g) (h : t = (g : Int) * u) (hs : s.natAbs ≤ 1) : (s * u).natAbs ≤ t.natAbs := by
  rw [h, Int.natAbs_mul, Int.natAbs_mul]
  show s.natAbs * u.natAbs ≤ g * u.natAbs
  exact Nat.mul_le_mul_right _ (by omega)
theorem sign_le (b : Int) : b.sign.natAbs ≤ 1 := by
  rcases Int.lt_trichotomy b 0 with q | q | q
  · rw [Int.sign_eq_neg_one_of_neg q]; decide
  · rw [q]; decide
  · rw [Int.sign_eq_one_of_pos q]; decide
theorem sz_divInt {n : Nat} {t b : Int} (hb : b ≠ 0) (h1 : Bd n t) (h2 : Bd n b) : Sz n (Rat.divInt t b) := by
  obtain ⟨u, v, hu, hv, hg, e1, e2⟩ := low_parts t b hb
  have s := sign_le b
  refine ⟨?_, ?_⟩
  · rw [e1]; exact Nat.lt_of_le_of_lt (part_le hg hu s) h1
  · rw [e2]; exact Nat.lt_of_le_of_lt (part_le hg hv s) h2
theorem den_ne (q : Rat) : (q.den : Int) ≠ 0 := by
  have := q.den_nz
  omega
theorem den_pos (q : Rat) : (0 : Int) < (q.den : Int) := by
  have := q.den_pos
  omega
theorem mul_ne {a b : Int} (h : a ≠ 0) (q : b ≠ 0) : a * b ≠ 0 := fun e => by
  rcases Int.mul_eq_zero.mp e with z | z
  · exact h z
  · exact q z
/-! ### what is reckoned of tops and bottoms -/
theorem of_add (x y : Rat) : Rat.divInt (x.num * y.den + y.num * x.den) (x.den * y.den) = x + y := by
  rw [← Rat.divInt_add_divInt _ _ (den_ne x) (den_ne y), Rat.num_divInt_den, Rat.num_divInt_den]
theorem of_sub (x y : Rat) : Rat.divInt (x.num * y.den - y.num * x.den) (x.den * y.den) = x - y := by
  rw [← Rat.divInt_sub_divInt _ _ (den_ne x) (den_ne y), Rat.num_divInt_den, Rat.num_divInt_den]
theorem of_mul (x y : Rat) : Rat.divInt (x.num * y.num) (x.den * y.den) = x * y := by
  rw [← Rat.divInt_mul_divInt, Rat.num_divInt_den, Rat.num_divInt_den]
theorem of_div (x y : Rat) : Rat.divInt (x.num * y.den) (x.den * y.num) = x / y := by
  rw [← Rat.divInt_mul_divInt, Rat.num_divInt_den, Rat.div_def, ← Rat.inv_divInt, Rat.num_divInt_den]
theorem of_int (i : Int) : Rat.divInt i 1 = (i : Rat) := by
  have e : Rat.divInt (i : Rat).num ((i : Rat).den : Int) = (i : Rat) := Rat.num_divInt_den _
  simpa using e
theorem sz_int {n : Nat} {i : Int} (h : Bd n i) (l : 0 < n) : Sz n (i : Rat) := by
  refine ⟨by simpa using h, ?_⟩
  have : ((i : Rat).den : Int) = 1 := by simp
  rw [this]
  show 1 < 2 ^ n
  exact Nat.one_lt_two_pow (by omega)
section
variable {m n : Nat} {x y : Rat}
theorem Sz.add (h : Sz m x) (q : Sz m y) : Sz (m + m + 1) (x + y) := by
  rw [← of_add]
  exact sz_divInt (mul_ne (den_ne x) (den_ne y)) ((h.1.mul q.2).add (q.1.mul h.2)) ((h.2.mul q.2).mono (by omega))
theorem Sz.sub (h : Sz m x) (q : Sz m y) : Sz (m + m + 1) (x - y) := by
  rw [← of_sub]
  exact sz_divInt (mul_ne (den_ne x) (den_ne y)) ((h.1.mul q.2).sub (q.1.mul h.2)) ((h.2.mul q.2).mono (by omega))
theorem Sz.mul (h : Sz m x) (q : Sz m y) : Sz (m + m) (x * y) := by
  rw [← of_mul]
  exact sz_divInt (mul_ne (den_ne x) (den_ne y)) (h.1.mul q.1) (h.2.mul q.2)
theorem Sz.div (h : Sz m x) (q : Sz m y) (n : y ≠ 0) : Sz (m + m) (x / y) := by
  rw [← of_div]
  exact sz_divInt (mul_ne (den_ne x) fun e => n (Rat.num_eq_zero.mp e)) (h.1.mul q.2) (h.2.mul q.1)
theorem Sz.neg (h : Sz m x) : Sz m (-x) := ⟨by rw [Rat.neg_num]; exact h.1.neg, by rw [Rat.neg_den]; exact h.2⟩
end
/-! ### Euclid's way -/
/-! ### data -/
/-- a ratio as the program holds it; as the law holds it -/
@[reducible] def qD (C : Addr) (q : Rat) : D := .obj C [("own_top", .int q.num), ("own_bottom", .int (q.den : Int))]
@[reducible] def qP (q : Rat) : D := .tup [.int q.num, .int (q.den : Int)]
theorem q_eq {x y : Rat} : (decide (x.num = y.num) && decide ((x.den : Int) = (y.den : Int))) = decide (x = y) := by
  by_cases h : x = y
  · subst h; simp
  · rw [decide_eq_false h, Bool.and_eq_false_iff]
    by_cases a : x.num = y.num
    · exact .inr (decide_eq_false fun b => h (Rat.ext a (by omega)))
    · exact .inl (decide_eq_false a)
end Dn
end
section
set_option Elab.async false
set_option linter.all false
set_option maxRecDepth 100000
set_option maxHeartbeats 2000000
/-! DPoly: the plain law of polynomials: coefficients as functions, lists without noughts at their end. -/
namespace Dn
open PySem PySem.Spec L2
abbrev Cf := Nat → Rat
def sh (f : Cf) : Cf := fun i => f (i + 1)
/-- the product's coefficients -/
def conv : Cf → Cf → Nat → Rat
  | f, g, 0 => f 0 * g 0
  | f, g, n + 1 => f 0 * g (n + 1) + conv (sh f) g n
theorem conv_add_l (f f' g : Cf) (n : Nat) : conv (fun i => f i + f' i) g n = conv f g n + conv f' g n := by
  induction n generalizing f f' with
  | zero => exact Rat.add_mul _ _ _
  | succ n ih =>
    show (f 0 + f' 0) * g (n + 1) + conv (fun i => sh f i + sh f' i) g n = (f 0 * g (n + 1) + conv (sh f) g n) + (f' 0 * g (n + 1) + conv (sh f') g n)
    rw [ih, Rat.add_mul]
    grind
theorem conv_smul_l (c : Rat) (f g : Cf) (n : Nat) : conv (fun i => c * f i) g n = c * conv f g n := by
  induction n generalizing f with
  | zero =>
    show c * f 0 * g 0 = c * (f 0 * g 0)
    grind
  | succ n ih =>
    show c * f 0 * g (n + 1) + conv (fun i => c * sh f i) g n = c * (f 0 * g (n + 1) + conv (sh f) g n)
    rw [ih]
    grind
theorem conv_add_r (f g g' : Cf) (n : Nat) : conv f (fun i => g i + g' i) n = conv f g n + conv f g' n := by
  induction n generalizing f with
  | zero => exact Rat.mul_add _ _ _
  | succ n ih =>
    show f 0 * (g (n + 1) + g' (n + 1)) + conv (sh f) (fun i => g i + g' i) n = (f 0 * g (n + 1) + conv (sh f) g n) + (f 0 * g' (n + 1) + conv (sh f) g' n)
    rw [ih]
    grind
theorem conv_smul_r (c : Rat) (f g : Cf) (n : Nat) : conv f (fun i => c * g i) n = c * conv f g n := by
  induction n generalizing f with
  | zero =>
    show f 0 * (c * g 0) = c * (f 0 * g 0)
    grind
  | succ n ih =>
    show f 0 * (c * g (n + 1)) + conv (sh f) (fun i => c * g i) n = c * (f 0 * g (n + 1) + conv (sh f) g n)
    rw [ih]
    grind
theorem conv_last (f g : Cf) (n : Nat) : conv f g (n + 1) = conv f (sh g) n + f (n + 1) * g 0 := by
  induction n generalizing f with
  | zero => rfl
  | succ n ih =>
    show f 0 * g (n + 2) + conv (sh f) g (n + 1) = (f 0 * g (n + 2) + conv (sh f) (sh g) n) + f (n + 2) * g 0
    rw [ih (sh f)]
    show f 0 * g (n + 2) + (conv (sh f) (sh g) n + f (n + 2) * g 0) = _
    grind
theorem conv_comm (f g : Cf) (n : Nat) : conv f g n = conv g f n := by
  induction n generalizing f g with
  | zero => exact Rat.mul_comm _ _
  | succ n ih =>
    rw [conv_last g f]
    show f 0 * g (n + 1) + conv (sh f) g n = _
    rw [ih (sh f) g]
    grind
/-- n times the n-th -/
def th (f : Cf) : Cf := fun i => (i : Rat) * f i
/-- the slope -/
def dv (f : Cf) : Cf := fun i => ((i + 1 : Nat) : Rat) * f (i + 1)
/-! ### lists of coefficients -/
def cf (l : List Rat) : Cf := fun i => l.getD i 0
theorem cf_ge {l : List Rat} {i : Nat} (h : l.length ≤ i) : cf l i = 0 := by
  unfold cf
  rw [List.getD_eq_getElem?_getD, List.getElem?_eq_none h]
  rfl
theorem cf_lt {l : List Rat} {i : Nat} (h : i < l.length) : cf l i = l[i] := by
  unfold cf
  rw [List.getD_eq_getElem?_getD, List.getElem?_eq_getElem h]
  rfl
/-- how many entries stay -/
def cnt (l : List Rat) : Nat → Nat
  | 0 => 0
  | n + 1 => if cf l n = 0 then cnt l n else n + 1
def trim (l : List Rat) : List Rat := l.take (cnt l l.length)
theorem cnt_le (l : List Rat) : ∀ n, cnt l n ≤ n
  | 0 => Nat.le_refl _
  | n + 1 => by
    unfold cnt
    split
    · exact Nat.le_succ_of_le (cnt_le l n)
    · exact Nat.le_refl _
theorem cnt_zero (l : List Rat) : ∀ n i, cnt l n ≤ i → i < n → cf l i = 0
  | 0, i, _, h => absurd h (Nat.not_lt_zero _)
  | n + 1, i, h1, h2 => by
    unfold cnt at h1
    split at h1
    · rename_i z
      by_cases e : i = n
      · rw [e]; exact z
      · exact cnt_zero l n i h1 (by omega)
    · omega
theorem cnt_last (l : List Rat) : ∀ n, cnt l n = 0 ∨ cf l (cnt l n - 1) ≠ 0
  | 0 => .inl rfl
  | n + 1 => by
    unfold cnt
    split
    · exact cnt_last l n
    · rename_i z
      exact .inr z
theorem trim_len (l : List Rat) : (trim l).length = cnt l l.length := by
  unfold trim
  rw [List.length_take, Nat.min_eq_left (cnt_le l _)]
theorem cf_trim (l : List Rat) (i : Nat) : cf (trim l) i = cf l i := by
  by_cases h : i < cnt l l.length
  · have h2 : i < l.length := Nat.lt_of_lt_of_le h (cnt_le l _)
    rw [cf_lt (by rw [trim_len]; exact h), cf_lt h2]
    unfold trim
    exact List.getElem_take
  · rw [cf_ge (by rw [trim_len]; omega)]
    by_cases h2 : i < l.length
    · exact (cnt_zero l _ i (by omega) h2).symm
    · exact (cf_ge (by omega)).symm
/-- no nought at the end -/
def Tr (l : List Rat) : Prop := l.length = 0 ∨ cf l (l.length - 1) ≠ 0
theorem trim_tr (l : List Rat) : Tr (trim l) := by
  unfold Tr
  rw [trim_len, cf_trim]
  exact cnt_last l l.length
theorem tr_len {l m : List Rat} (hl : Tr l) (h : ∀ i, cf l i = cf m i) : l.length ≤ m.length := by
  rcases hl with z | z
  · omega
  · by_cases q : l.length ≤ m.length
    · exact q
    · exact absurd ((h _).trans (cf_ge (by omega))) z
/-- trimmed lists with the same coefficients are the same -/
theorem tr_ext {l m : List Rat} (hl : Tr l) (hm : Tr m) (h : ∀ i, cf l i = cf m i) : l = m := by
  have e : l.length = m.length := Nat.le_antisymm (tr_len hl h) (tr_len hm fun i => (h i).symm)
  refine List.ext_getElem e fun i h1 h2 => ?_
  have := h i
  rw [cf_lt h1, cf_lt h2] at this
  exact this
theorem trim_ext {l m : List Rat} (h : ∀ i, cf l i = cf m i) : trim l = trim m := tr_ext (trim_tr l) (trim_tr m) fun i => by rw [cf_trim, cf_trim, h]
theorem trim_of {l : List Rat} (h : Tr l) : trim l = l := tr_ext (trim_tr l) h fun i => cf_trim l i
theorem trim_eq {l m : List Rat} (hm : Tr m) (h : ∀ i, cf l i = cf m i) : trim l = m := tr_ext (trim_tr l) hm fun i => by rw [cf_trim, h]
theorem tr_nil : Tr [] := .inl rfl
theorem cf_nil (i : Nat) : cf [] i = 0 := cf_ge (Nat.zero_le _)
/-- the list of the first n of f -/
def ofF (n : Nat) (f : Cf) : List Rat := (List.range n).map f
theorem ofF_len (n : Nat) (f : Cf) : (ofF n f).length = n := by unfold ofF; rw [List.length_map, List.length_range]
theorem cf_ofF (n : Nat) (f : Cf) (i : Nat) : cf (ofF n f) i = if i < n then f i else 0 := by
  split
  · rename_i h
    rw [cf_lt (by rw [ofF_len]; exact h)]
    unfold ofF
    simp
  · exact cf_ge (by rw [ofF_len]; omega)
theorem cf_ofF' {n : Nat} {f : Cf} (h : ∀ i, n ≤ i → f i = 0) (i : Nat) : cf (ofF n f) i = f i := by
  rw [cf_ofF]
  split
  · rfl
  · rename_i q
    exact (h i (by omega)).symm
/-! ### the operations -/
def pAdd (l m : List Rat) : List Rat := trim (ofF (max l.length m.length) fun i => cf l i + cf m i)
def pScl (l : List Rat) (c : Rat) : List Rat := trim (ofF l.length fun i => cf l i * c)
def pMul (l m : List Rat) : List Rat := trim (ofF (l.length + m.length - 1) fun i => conv (cf l) (cf m) i)
theorem cf_pAdd (l m : List Rat) (i : Nat) : cf (pAdd l m) i = cf l i + cf m i := by
  unfold pAdd
  rw [cf_trim, cf_ofF']
  intro j hj
  rw [cf_ge (by omega), cf_ge (by omega), Rat.zero_add]
theorem cf_pScl (l : List Rat) (c : Rat) (i : Nat) : cf (pScl l c) i = cf l i * c := by
  unfold pScl
  rw [cf_trim, cf_ofF']
  intro j hj
  rw [cf_ge (by omega), Rat.zero_mul]
theorem conv_ge : ∀ (n : Nat) (f g : Cf) (a b : Nat), (∀ i, a ≤ i → f i = 0) → (∀ i, b ≤ i → g i = 0) → a + b - 1 ≤ n → (0 < a ∨ 0 < b) → conv f g n = 0
  | 0, f, g, a, b, hf, hg, h, p => by
    show f 0 * g 0 = 0
    by_cases z : a = 0
    · rw [hf 0 (by omega), Rat.zero_mul]
    · rw [hg 0 (by omega), Rat.mul_zero]
  | n + 1, f, g, a, b, hf, hg, h, p => by
    show f 0 * g (n + 1) + conv (sh f) g n = 0
    by_cases z : a = 0
    · have e : conv (sh f) g n = 0 := conv_zero n (sh f) g fun i => hf (i + 1) (by omega)
      rw [hf 0 (by omega), e]
      grind
    · have e : conv (sh f) g n = 0 := by
        by_cases z1 : a = 1
        · exact conv_zero n (sh f) g fun i => hf (i + 1) (by omega)
        · exact conv_ge n (sh f) g (a - 1) b (fun i hi => hf (i + 1) (by omega)) hg (by omega) (by omega)
      rw [hg (n + 1) (by omega), e]
      grind
where
  conv_zero : ∀ (n : Nat) (f g : Cf), (∀ i, f i = 0) → conv f g n = 0
  | 0, f, g, h => by
    show f 0 * g 0 = 0
    rw [h 0, Rat.zero_mul]
  | n + 1, f, g, h => by
    show f 0 * g (n + 1) + conv (sh f) g n = 0
    rw [h 0, conv_zero n (sh f) g fun i => h (i + 1)]
    grind
theorem cf_pMul (l m : List Rat) (i : Nat) : cf (pMul l m) i = conv (cf l) (cf m) i := by
  unfold pMul
  rw [cf_trim]
  by_cases p : 0 < l.length ∨ 0 < m.length
  · rw [cf_ofF']
    intro j hj
    exact conv_ge j _ _ l.length m.length (fun i h => cf_ge h) (fun i h => cf_ge h) hj p
  · rw [cf_ofF, if_neg (by omega)]
    exact (conv_ge.conv_zero i _ _ fun j => cf_ge (by omega)).symm
theorem pAdd_tr (l m : List Rat) : Tr (pAdd l m) := trim_tr _
theorem pScl_tr (l : List Rat) (c : Rat) : Tr (pScl l c) := trim_tr _
theorem pMul_tr (l m : List Rat) : Tr (pMul l m) := trim_tr _
theorem conv_congr {f f' g g' : Cf} (h : ∀ i, f i = f' i) (q : ∀ i, g i = g' i) (n : Nat) : conv f g n = conv f' g' n := by
  rw [show f = f' from funext h, show g = g' from funext q]
theorem pMul_comm (l m : List Rat) : pMul l m = pMul m l := tr_ext (pMul_tr _ _) (pMul_tr _ _) fun i => by
  rw [cf_pMul, cf_pMul]
  exact conv_comm _ _ _
theorem pAdd_comm (l m : List Rat) : pAdd l m = pAdd m l := tr_ext (pAdd_tr _ _) (pAdd_tr _ _) fun i => by
  rw [cf_pAdd, cf_pAdd, Rat.add_comm]
end Dn
end
section
set_option Elab.async false
set_option linter.all false
set_option maxRecDepth 100000
set_option maxHeartbeats 2000000
/-! DPoly2: the highest coefficient of a product. -/
namespace Dn
open PySem PySem.Spec L2
theorem conv_top : ∀ (a b : Nat) (f g : Cf), (∀ i, a < i → f i = 0) → (∀ i, b < i → g i = 0) → conv f g (a + b) = f a * g b
  | 0, 0, f, g, _, _ => rfl
  | 0, b + 1, f, g, hf, hg => by
    rw [Nat.zero_add]
    show f 0 * g (b + 1) + conv (sh f) g b = f 0 * g (b + 1)
    rw [conv_ge.conv_zero b (sh f) g fun i => hf (i + 1) (Nat.succ_pos i)]
    grind
  | a + 1, b, f, g, hf, hg => by
    rw [show a + 1 + b = (a + b) + 1 by omega]
    show f 0 * g (a + b + 1) + conv (sh f) g (a + b) = f (a + 1) * g b
    rw [hg (a + b + 1) (by omega), conv_top a b (sh f) g (fun i hi => hf (i + 1) (by omega)) hg]
    show f 0 * 0 + f (a + 1) * g b = _
    grind
theorem pMul_top {l m : List Rat} (hl : Tr l) (hm : Tr m) (h1 : 0 < l.length) (h2 : 0 < m.length) : (pMul l m).length = l.length + m.length - 1 := by
  have up : (pMul l m).length ≤ l.length + m.length - 1 := by
    unfold pMul
    rw [trim_len]
    exact Nat.le_trans (cnt_le _ _) (by rw [ofF_len]; exact Nat.le_refl _)
  have a0 : cf l (l.length - 1) ≠ 0 := hl.resolve_left (by omega)
  have b0 : cf m (m.length - 1) ≠ 0 := hm.resolve_left (by omega)
  have t := conv_top (l.length - 1) (m.length - 1) (cf l) (cf m) (fun i hi => cf_ge (by omega)) (fun i hi => cf_ge (by omega))
  rw [← cf_pMul] at t
  rcases Nat.lt_or_ge (l.length - 1 + (m.length - 1)) (pMul l m).length with q | q
  · omega
  · rw [cf_ge q] at t
    exact absurd t.symm (by
      intro z
      rcases Rat.mul_eq_zero.mp z with y | y
      · exact a0 y
      · exact b0 y)
theorem pMul_nil_l (m : List Rat) : pMul [] m = [] := tr_ext (pMul_tr _ _) tr_nil fun i => by
  rw [cf_pMul, cf_nil]
  exact conv_ge.conv_zero i _ _ fun j => cf_nil j
theorem pMul_nil_r (m : List Rat) : pMul m [] = [] := by rw [pMul_comm, pMul_nil_l]
end Dn
end
section
set_option Elab.async false
set_option linter.all false
set_option maxRecDepth 100000
set_option maxHeartbeats 2000000
/-! DPolyIn: the plain law of polynomials by their worths; one put in another. -/
namespace Dn
open PySem PySem.Spec L2
/-! ### worths of the first n coefficients -/
def evC : Cf → Nat → Rat → Rat
  | _, 0, _ => 0
  | f, n + 1, x => f 0 + x * evC (sh f) n x
theorem evC_congr {f g : Cf} (h : ∀ i, f i = g i) (n : Nat) (x : Rat) : evC f n x = evC g n x := by rw [show f = g from funext h]
theorem evC_zero : ∀ (n : Nat) (f : Cf) (x : Rat), (∀ i, i < n → f i = 0) → evC f n x = 0
  | 0, _, _, _ => rfl
  | n + 1, f, x, h => by
    show f 0 + x * evC (sh f) n x = 0
    rw [h 0 (Nat.succ_pos n), evC_zero n (sh f) x fun i hi => h (i + 1) (by omega), Rat.mul_zero, Rat.add_zero]
theorem evC_add : ∀ (n : Nat) (f g : Cf) (x : Rat), evC (fun i => f i + g i) n x = evC f n x + evC g n x
  | 0, _, _, _ => (Rat.add_zero 0).symm
  | n + 1, f, g, x => by
    show f 0 + g 0 + x * evC (fun i => sh f i + sh g i) n x = (f 0 + x * evC (sh f) n x) + (g 0 + x * evC (sh g) n x)
    rw [evC_add n]
    grind
theorem evC_smul (c : Rat) : ∀ (n : Nat) (f : Cf) (x : Rat), evC (fun i => c * f i) n x = c * evC f n x
  | 0, _, _ => (Rat.mul_zero c).symm
  | n + 1, f, x => by
    show c * f 0 + x * evC (fun i => c * sh f i) n x = c * (f 0 + x * evC (sh f) n x)
    rw [evC_smul c n]
    grind
theorem evC_more {f : Cf} {n : Nat} (h : ∀ i, n ≤ i → f i = 0) (x : Rat) : ∀ m, n ≤ m → evC f m x = evC f n x := by
  intro m
  induction m generalizing f n with
  | zero => intro hm; obtain rfl : n = 0 := by omega
            rfl
  | succ m ih =>
    intro hm
    cases n with
    | zero => exact evC_zero (m + 1) f x fun i _ => h i (Nat.zero_le i)
    | succ n =>
      show f 0 + x * evC (sh f) m x = f 0 + x * evC (sh f) n x
      rw [ih (f := sh f) (n := n) (fun i hi => h (i + 1) (by omega)) (by omega)]
theorem evC_conv : ∀ (a : Nat) (f g : Cf) (b : Nat) (x : Rat), (∀ i, a ≤ i → f i = 0) → (∀ i, b ≤ i → g i = 0) → evC (conv f g) (a + b) x = evC f a x * evC g b x
  | 0, f, g, b, x, hf, hg => by
    rw [evC_zero (0 + b) (conv f g) x fun i _ => conv_ge.conv_zero i f g fun j => hf j (Nat.zero_le j)]
    show 0 = 0 * _
    rw [Rat.zero_mul]
  | a + 1, f, g, b, x, hf, hg => by
    have ih := evC_conv a (sh f) g b x (fun i hi => hf (i + 1) (by omega)) hg
    have hz : ∀ i, a + b ≤ i → conv (sh f) g i = 0 := fun i hi => by
      by_cases q : 0 < a ∨ 0 < b
      · exact conv_ge i (sh f) g a b (fun i hi => hf (i + 1) (by omega)) hg (by omega) q
      · exact conv_ge.conv_zero i (sh f) g fun j => hf (j + 1) (by omega)
    have e : a + 1 + b = (a + b) + 1 := by omega
    rw [e]
    show f 0 * g 0 + x * evC (fun i => f 0 * sh g i + conv (sh f) g i) (a + b) x = (f 0 + x * evC (sh f) a x) * evC g b x
    rw [evC_add, evC_smul, ih]
    have g1 : evC g (a + b + 1) x = evC g b x := evC_more hg x _ (by omega)
    have g2 : evC g (a + b + 1) x = g 0 + x * evC (sh g) (a + b) x := rfl
    rw [← g1, g2]
    grind
/-- what vanishes at all great numbers is nought -/
theorem evC_div : ∀ (n : Nat) (f : Cf) (r : Rat), ∃ q : Cf, ∀ x, evC f (n + 1) x - evC f (n + 1) r = (x - r) * evC q n x
  | 0, f, r => ⟨f, fun x => by
    show f 0 + x * 0 - (f 0 + r * 0) = (x - r) * 0
    grind⟩
  | n + 1, f, r => by
    obtain ⟨q, h⟩ := evC_div n (sh f) r
    refine ⟨fun i => match i with | 0 => evC (sh f) (n + 1) r | i + 1 => q i, fun x => ?_⟩
    have hx := h x
    show f 0 + x * evC (sh f) (n + 1) x - (f 0 + r * evC (sh f) (n + 1) r) = (x - r) * (evC (sh f) (n + 1) r + x * evC q n x)
    have : evC (sh f) (n + 1) x = evC (sh f) (n + 1) r + (x - r) * evC q n x := by rw [← hx]; grind
    rw [this]
    grind
theorem evC_nought : ∀ (n : Nat) (f : Cf) (k : Nat), (∀ m : Nat, k ≤ m → evC f n (m : Rat) = 0) → ∀ i, i < n → f i = 0
  | 0, _, _, _, i, hi => by omega
  | n + 1, f, k, h, i, hi => by
    obtain ⟨q, hq⟩ := evC_div n f (k : Rat)
    have h0 := h k (Nat.le_refl k)
    have qz : ∀ i, i < n → q i = 0 := evC_nought n q (k + 1) fun m hm => by
      have a := hq (m : Rat)
      rw [h m (by omega), h0] at a
      have ne : (m : Rat) - (k : Rat) ≠ 0 := fun e => by
        have e2 : (m : Rat) = (k : Rat) := by grind
        have := Rat.natCast_inj.mp e2
        omega
      have b : ((m : Rat) - (k : Rat)) * evC q n (m : Rat) = 0 := by rw [← a]; grind
      exact (Rat.mul_eq_zero.mp b).resolve_left ne
    have all : ∀ x, evC f (n + 1) x = 0 := fun x => by
      have a := hq x
      rw [h0, evC_zero n q x qz, Rat.mul_zero] at a
      grind
    have z0 : f 0 = 0 := by
      have a : f 0 + 0 * evC (sh f) n 0 = 0 := all 0
      rw [Rat.zero_mul, Rat.add_zero] at a
      exact a
    cases i with
    | zero => exact z0
    | succ i =>
      refine evC_nought n (sh f) 1 (fun m hm => ?_) i (by omega)
      have a : f 0 + (m : Rat) * evC (sh f) n (m : Rat) = 0 := all (m : Rat)
      rw [z0, Rat.zero_add] at a
      have ne : (m : Rat) ≠ 0 := fun e => by
        have := Rat.natCast_eq_zero_iff.mp e
        omega
      exact (Rat.mul_eq_zero.mp a).resolve_left ne
/-! ### worths of lines -/
def ev (l : List Rat) (x : Rat) : Rat := evC (cf l) l.length x
theorem ev_more (l : List Rat) (x : Rat) {n : Nat} (h : l.length ≤ n) : evC (cf l) n x = ev l x := evC_more (fun _ hi => cf_ge hi) x n h
theorem ev_of {l : List Rat} {f : Cf} (h : ∀ i, cf l i = f i) {n : Nat} (hn : l.length ≤ n) (x : Rat) : ev l x = evC f n x := by
  rw [← ev_more l x hn]
  exact evC_congr h n x
theorem ev_nil (x : Rat) : ev [] x = 0 := rfl
theorem ev_cons (a : Rat) (l : List Rat) (x : Rat) : ev (a :: l) x = a + x * ev l x := rfl
theorem ev_ext {l m : List Rat} (hl : Tr l) (hm : Tr m) (h : ∀ x, ev l x = ev m x) : l = m := by
  refine tr_ext hl hm fun i => ?_
  by_cases q : i < max l.length m.length
  · have z := evC_nought (max l.length m.length) (fun i => cf l i + (-1) * cf m i) 0 (fun k _ => by
      rw [evC_add, evC_smul, ev_more l _ (by omega), ev_more m _ (by omega), h]
      grind) i q
    grind
  · rw [cf_ge (by omega), cf_ge (by omega)]
theorem ev_trim (l : List Rat) (x : Rat) : ev (trim l) x = ev l x := by
  rw [← ev_more (trim l) x (n := l.length) (by rw [trim_len]; exact cnt_le _ _)]
  exact evC_congr (cf_trim l) _ x
theorem ev_pAdd (l m : List Rat) (x : Rat) : ev (pAdd l m) x = ev l x + ev m x := by
  rw [ev_of (cf_pAdd l m) (n := max l.length m.length) (by unfold pAdd; rw [trim_len]; exact Nat.le_trans (cnt_le _ _) (by rw [ofF_len]; exact Nat.le_refl _)) x, evC_add, ev_more l x (by omega), ev_more m x (by omega)]
theorem ev_pScl (l : List Rat) (c x : Rat) : ev (pScl l c) x = ev l x * c := by
  rw [ev_of (f := fun i => c * cf l i) (fun i => by rw [cf_pScl]; grind) (n := l.length) (by unfold pScl; rw [trim_len]; exact Nat.le_trans (cnt_le _ _) (by rw [ofF_len]; exact Nat.le_refl _)) x, evC_smul, ev_more l x (Nat.le_refl _)]
  grind
theorem ev_pMul (l m : List Rat) (x : Rat) : ev (pMul l m) x = ev l x * ev m x := by
  rw [ev_of (cf_pMul l m) (n := l.length + m.length) (by unfold pMul; rw [trim_len]; exact Nat.le_trans (cnt_le _ _) (by rw [ofF_len]; omega)) x, evC_conv l.length (cf l) (cf m) m.length x (fun i hi => cf_ge hi) (fun i hi => cf_ge hi)]
  rfl
/-! ### derived -/
/-! ### put in -/
theorem Tr.tail {a b : Rat} {l : List Rat} (h : Tr (a :: b :: l)) : Tr (b :: l) := by
  rcases h with h | h
  · exact absurd h (by simp)
  · exact .inr h
end Dn
end
section
set_option Elab.async false
set_option linter.all false
set_option maxRecDepth 100000
set_option maxHeartbeats 2000000
/-! DPolyDiv: the plain law of dividing polynomials with a rest, and of one line through another. -/
namespace Dn
open PySem PySem.Spec L2
/-! ### one power of t -/
def mono (s : Nat) (c : Rat) : Cf := fun i => if i = s then c else 0
theorem conv_mono (g : Cf) (c : Rat) : ∀ (s i : Nat), conv (mono s c) g i = if s ≤ i then c * g (i - s) else 0
  | 0, i => by
    rw [if_pos (Nat.zero_le i)]
    cases i with
    | zero => rfl
    | succ i =>
      show mono 0 c 0 * sh g i + conv (sh (mono 0 c)) g i = _
      rw [conv_ge.conv_zero i (sh (mono 0 c)) g fun j => rfl]
      show c * g (i + 1) + 0 = c * g (i + 1 - 0)
      rw [Rat.add_zero, Nat.sub_zero]
  | s + 1, 0 => by
    show (0 : Rat) * g 0 = if s + 1 ≤ 0 then _ else 0
    rw [if_neg (by omega), Rat.zero_mul]
  | s + 1, i + 1 => by
    show (0 : Rat) * sh g i + conv (sh (mono (s + 1) c)) g i = _
    have e : sh (mono (s + 1) c) = mono s c := by
      funext j
      show (if j + 1 = s + 1 then c else 0) = if j = s then c else 0
      by_cases h : j = s
      · rw [if_pos h, if_pos (by omega)]
      · rw [if_neg h, if_neg (by omega)]
    rw [e, conv_mono g c s i, Rat.zero_mul, Rat.zero_add, Nat.add_sub_add_right]
    by_cases h : s ≤ i
    · rw [if_pos h, if_pos (by omega)]
    · rw [if_neg h, if_neg (by omega)]
/-! ### division with a rest -/
structure IsDiv (l m q r : List Rat) : Prop where
  tq : Tr q
  tr : Tr r
  lt : r.length < m.length
  eq : ∀ i, cf l i = conv (cf q) (cf m) i + cf r i
theorem IsDiv.uniq {l m q r q' r' : List Rat} (tm : Tr m) (h : IsDiv l m q r) (h' : IsDiv l m q' r') : q = q' ∧ r = r' := by
  have hm : 0 < m.length := by have := h.lt; omega
  have hd : ∀ i, cf (pMul (pAdd q (pScl q' (-1))) m) i = cf (pAdd r' (pScl r (-1))) i := fun i => by
    rw [cf_pMul, cf_pAdd, cf_pScl, conv_congr (f' := fun j => cf q j + (-1) * cf q' j) (fun j => by rw [cf_pAdd, cf_pScl]; grind) (fun _ => rfl), conv_add_l, conv_smul_l]
    have a := h.eq i
    have b := h'.eq i
    grind
  have e := tr_ext (pMul_tr _ _) (pAdd_tr _ _) hd
  have le : (pAdd r' (pScl r (-1))).length ≤ max r'.length r.length := by
    unfold pAdd
    rw [trim_len]
    refine Nat.le_trans (cnt_le _ _) ?_
    rw [ofF_len]
    have : (pScl r (-1)).length ≤ r.length := by
      unfold pScl
      rw [trim_len]
      exact Nat.le_trans (cnt_le _ _) (by rw [ofF_len]; exact Nat.le_refl _)
    omega
  have z : (pAdd q (pScl q' (-1))).length = 0 := by
    rcases Nat.eq_zero_or_pos (pAdd q (pScl q' (-1))).length with z | z
    · exact z
    · have t := pMul_top (pAdd_tr q (pScl q' (-1))) tm z hm
      rw [e] at t
      have := h.lt
      have := h'.lt
      omega
  have eq : q = q' := tr_ext h.tq h'.tq fun i => by
    have a := cf_ge (l := pAdd q (pScl q' (-1))) (i := i) (by omega)
    rw [cf_pAdd, cf_pScl] at a
    grind
  subst eq
  refine ⟨rfl, tr_ext h.tr h'.tr fun i => ?_⟩
  have a := h.eq i
  have b := h'.eq i
  grind
/-- the part of one step -/
def fac (l m : List Rat) : Rat := cf l (l.length - 1) / cf m (m.length - 1)
/-- what one step leaves -/
def dsub (l m : List Rat) : List Rat := ofF (l.length - 1) fun i => cf l i - if l.length - m.length ≤ i then fac l m * cf m (i - (l.length - m.length)) else 0
theorem dsub_len (l m : List Rat) : (dsub l m).length = l.length - 1 := ofF_len _ _
theorem cf_dsub {l m : List Rat} (tm : Tr m) (h0 : 0 < m.length) (h : m.length ≤ l.length) (i : Nat) : cf l i = conv (mono (l.length - m.length) (fac l m)) (cf m) i + cf (dsub l m) i := by
  rw [conv_mono]
  unfold dsub
  rw [cf_ofF]
  by_cases q : i < l.length - 1
  · rw [if_pos q]
    grind
  · rw [if_neg q, if_pos (by omega), Rat.add_zero]
    have hd : cf m (m.length - 1) ≠ 0 := tm.resolve_left (by omega)
    by_cases e : i = l.length - 1
    · subst e
      rw [show l.length - 1 - (l.length - m.length) = m.length - 1 by omega]
      unfold fac
      rw [Rat.div_mul_cancel hd]
    · rw [cf_ge (l := l) (by omega), cf_ge (l := m) (by omega), Rat.mul_zero]
theorem cf_set {q : List Rat} {s : Nat} {c : Rat} (hs : s < q.length) (z : cf q s = 0) (i : Nat) : cf (q.set s c) i = cf q i + mono s c i := by
  unfold mono
  by_cases e : i = s
  · subst e
    rw [if_pos rfl, z, Rat.zero_add, cf_lt (by rw [List.length_set]; exact hs), List.getElem_set_self]
  · rw [if_neg e, Rat.add_zero]
    unfold cf
    rw [List.getD_eq_getElem?_getD, List.getD_eq_getElem?_getD, List.getElem?_set_ne (by omega)]
/-- where the division stands: q so far, the rest so far -/
structure At (l m q r : List Rat) : Prop where
  len : q.length = l.length + 1 - m.length
  le : r.length ≤ l.length
  low : ∀ j, j < r.length + 1 - m.length → cf q j = 0
  eq : ∀ i, cf l i = conv (cf q) (cf m) i + cf r i
theorem cf_rep (n i : Nat) : cf (List.replicate n (0 : Rat)) i = 0 := by
  unfold cf
  rw [List.getD_eq_getElem?_getD]
  by_cases h : i < n
  · rw [List.getElem?_replicate, if_pos h]; rfl
  · rw [List.getElem?_replicate, if_neg h]; rfl
theorem at_start (l m : List Rat) : At l m (List.replicate (l.length + 1 - m.length) 0) l :=
  ⟨List.length_replicate, Nat.le_refl _, fun j _ => cf_rep _ _, fun i => by rw [conv_ge.conv_zero i _ _ fun j => cf_rep _ j, Rat.zero_add]⟩
theorem At.step {l m q r r' : List Rat} (a : At l m q r) (tm : Tr m) (h0 : 0 < m.length) (h : m.length ≤ r.length) (hr : ∀ i, cf r' i = cf (dsub r m) i) (hl : r'.length ≤ r.length - 1) : At l m (q.set (r.length - m.length) (fac r m)) r' := by
  have b := a.len
  have c := a.le
  refine ⟨by rw [List.length_set]; exact b, by omega, fun j hj => ?_, fun i => ?_⟩
  · rw [cf_set (by omega) (a.low _ (by omega)), a.low j (by omega)]
    unfold mono
    rw [if_neg (by omega), Rat.add_zero]
  · rw [conv_congr (f' := fun j => cf q j + mono (r.length - m.length) (fac r m) j) (fun j => cf_set (by omega) (a.low _ (by omega)) j) (fun _ => rfl), conv_add_l, a.eq i, hr, cf_dsub tm h0 h i]
    grind
theorem At.done {l m q r : List Rat} (a : At l m q r) (tl : Tr l) (tm : Tr m) (h0 : 0 < m.length) (h : r.length < m.length) : IsDiv l m q (trim r) := by
  have b := a.len
  refine ⟨?_, trim_tr _, Nat.lt_of_le_of_lt (by rw [trim_len]; exact cnt_le _ _) h, fun i => by rw [cf_trim]; exact a.eq i⟩
  rcases Nat.eq_zero_or_pos q.length with z | z
  · exact .inl z
  · refine .inr fun e => ?_
    have t : cf l (l.length - 1) ≠ 0 := tl.resolve_left (by omega)
    have c := conv_top (q.length - 1) (m.length - 1) (cf q) (cf m) (fun i hi => cf_ge (by omega)) (fun i hi => cf_ge (by omega))
    rw [e, Rat.zero_mul] at c
    have d := a.eq (l.length - 1)
    rw [show l.length - 1 = (q.length - 1) + (m.length - 1) by omega, c, cf_ge (l := r) (by omega), Rat.add_zero, show (q.length - 1) + (m.length - 1) = l.length - 1 by omega] at d
    exact t d
end Dn
end
section
set_option Elab.async false
set_option linter.all false
set_option maxRecDepth 100000
set_option maxHeartbeats 2000000
/-! DThr: quotient and rest as functions; one line through another. -/
namespace Dn
open PySem PySem.Spec L2
def pD (m : List Rat) : Nat → List Rat → List Rat → List Rat × List Rat
  | 0, q, r => (q, r)
  | n + 1, q, r => if m.length ≤ r.length then pD m n (q.set (r.length - m.length) (fac r m)) (trim (dsub r m)) else (q, r)
def quo (l m : List Rat) : List Rat := (pD m l.length (List.replicate (l.length + 1 - m.length) 0) l).1
def rem (l m : List Rat) : List Rat := (pD m l.length (List.replicate (l.length + 1 - m.length) 0) l).2
theorem pD_at {l m : List Rat} (tm : Tr m) (h0 : 0 < m.length) : ∀ (n : Nat) (q r : List Rat), At l m q r → Tr r → r.length ≤ n → At l m (pD m n q r).1 (pD m n q r).2 ∧ Tr (pD m n q r).2 ∧ (pD m n q r).2.length < m.length
  | 0, q, r, a, t, h => ⟨a, t, show r.length < m.length by omega⟩
  | n + 1, q, r, a, t, h => by
    rw [show pD m (n + 1) q r = if m.length ≤ r.length then pD m n (q.set (r.length - m.length) (fac r m)) (trim (dsub r m)) else (q, r) from rfl]
    by_cases c : m.length ≤ r.length
    · rw [if_pos c]
      have le : (trim (dsub r m)).length ≤ r.length - 1 := by rw [trim_len]; exact Nat.le_trans (cnt_le _ _) (by rw [dsub_len]; exact Nat.le_refl _)
      exact pD_at tm h0 n _ _ (a.step tm h0 c (fun i => cf_trim _ i) le) (trim_tr _) (by omega)
    · rw [if_neg c]
      exact ⟨a, t, Nat.lt_of_not_le c⟩
theorem quo_div {l m : List Rat} (tl : Tr l) (tm : Tr m) (h0 : 0 < m.length) : IsDiv l m (quo l m) (rem l m) := by
  obtain ⟨a, t, h⟩ := pD_at tm h0 l.length _ _ (at_start l m) tl (Nat.le_refl _)
  have d := a.done tl tm h0 h
  rw [trim_of t] at d
  exact d
theorem IsDiv.quo {l m q r : List Rat} (tl : Tr l) (tm : Tr m) (d : IsDiv l m q r) : q = quo l m ∧ r = rem l m := d.uniq tm (quo_div tl tm (by have := d.lt; omega))
theorem quo_len (l m : List Rat) (tl : Tr l) (tm : Tr m) (h0 : 0 < m.length) : (quo l m).length = l.length + 1 - m.length := (pD_at tm h0 l.length _ _ (at_start l m) tl (Nat.le_refl _)).1.len
/-! ### one line through another -/
end Dn
end
section
set_option Elab.async false
set_option linter.all false
set_option maxRecDepth 100000
set_option maxHeartbeats 2000000
/-! DRepr: repr of lists whose parts are data or instances of own classes. -/
namespace Dn
open PySem PySem.Spec L2
open Builtin Builtin.List
/-! ### data whose shape its object tells -/
mutual
def dsz : D → Nat
  | .lst xs => dszs xs + 1
  | .tup xs => dszs xs + 1
  | .non => 0
  | .bl _ => 0
  | .int _ => 0
  | .str _ => 0
  | .adr _ => 0
  | .ty _ => 0
  | .lstK _ => 0
  | .tupK _ => 0
  | .obj _ _ => 0
  | .dct _ => 0
def dszs : List D → Nat
  | [] => 0
  | x :: r => max (dsz x) (dszs r)
end
mutual
inductive Pn : D → Prop
  | non : Pn .non
  | bl (b : Bool) : Pn (.bl b)
  | int (i : Int) : Pn (.int i)
  | str (x : Str) : Pn (.str x)
  | lst {xs : List D} : Pns xs → Pn (.lst xs)
  | tup {xs : List D} : Pns xs → Pn (.tup xs)
  | obj (C : Addr) (fs : List (Str × D)) : Pn (.obj C fs)
inductive Pns : List D → Prop
  | nil : Pns []
  | cons {d : D} {ds : List D} : Pn d → Pns ds → Pns (d :: ds)
end
theorem Pns.get : ∀ {ds : List D} {i : Nat} {d : D}, Pns ds → ds[i]? = some d → Pn d
  | _, _, _, .nil, e => by simp at e
  | _, 0, _, .cons a _, e => by simp at e; subst e; exact a
  | _, i + 1, d, .cons _ b, e => Pns.get (i := i) (d := d) b (by simpa using e)
theorem dsz_mem : ∀ {ds : List D} {i : Nat} {d : D}, ds[i]? = some d → dsz d ≤ dszs ds
  | [], _, _, e => by simp at e
  | x :: r, 0, _, e => by
    simp at e
    subst e
    unfold dszs
    exact Nat.le_max_left _ _
  | x :: r, i + 1, d, e => by
    unfold dszs
    exact Nat.le_trans (dsz_mem (i := i) (d := d) (by simpa using e)) (Nat.le_max_right _ _)
section
variable {K : PySem.W.Frag} {H : Hp}
mutual
theorem dsz_fun : ∀ {d e : D} {v : V}, Pn d → Den K H v d → Pn e → Den K H v e → dsz d = dsz e
  | _, _, _, .non, .non, q, h => by cases h; rfl
  | _, _, _, .bl _, .bl _, q, h => by cases h; rfl
  | _, _, _, .int _, .int _, q, h => by cases h; rfl
  | _, _, _, .str _, .str _, q, h => by cases h; rfl
  | _, _, _, .lst p, .lst a b, q, h => by
    cases q with
    | lst q =>
      cases h with
      | lst a' b' =>
        rw [a] at a'
        cases a'
        unfold dsz
        rw [dszs_fun p b q b']
    | tup q => cases h with | tup a' b' => rw [a] at a'; cases a'
    | obj C fs => cases h with | obj a' b' => rw [a] at a'; cases a'
    | _ => cases h
  | _, _, _, .tup p, .tup a b, q, h => by
    cases q with
    | tup q =>
      cases h with
      | tup a' b' =>
        rw [a] at a'
        cases a'
        unfold dsz
        rw [dszs_fun p b q b']
    | lst q => cases h with | lst a' b' => rw [a] at a'; cases a'
    | obj C fs => cases h with | obj a' b' => rw [a] at a'; cases a'
    | _ => cases h
  | _, _, _, .obj C fs, .obj a b, q, h => by
    cases q with
    | tup q => cases h with | tup a' b' => rw [a] at a'; cases a'
    | lst q => cases h with | lst a' b' => rw [a] at a'; cases a'
    | obj C fs => rfl
    | _ => cases h
theorem dszs_fun : ∀ {ds es : List D} {vs : List V}, Pns ds → Dens K H vs ds → Pns es → Dens K H vs es → dszs ds = dszs es
  | _, _, _, .nil, .nil, q, h => by cases h; rfl
  | _, _, _, .cons p ps, .cons a b, q, h => by
    cases h with
    | cons a' b' =>
      cases q with
      | cons q qs =>
        unfold dszs
        rw [dsz_fun p a q a', dszs_fun ps b qs b']
end
end
/-- the lists whose repr is under way hold more than n -/
def GOk (K : PySem.W.Frag) (Hs : Hp) (n : Nat) (g : List Code) : Prop := ∀ id v rest kw, Code.builtin id ⟨v :: rest, kw⟩ ∈ g → ∀ b, v = .ref b → ∃ e, Den K Hs (.ref b) e ∧ Pn e ∧ n < dsz e
theorem GOk.mono {K : PySem.W.Frag} {Hs Hs' : Hp} {m n : Nat} {g : List Code} (h : GOk K Hs n g) (e : Ex Hs Hs') (l : m ≤ n) : GOk K Hs' m g := fun id v rest kw q b hb => by
  obtain ⟨d, h1, h2, h3⟩ := h id v rest kw q b hb
  exact ⟨d, h1.mono e, h2, Nat.lt_of_le_of_lt l h3⟩
theorem Gr.updo {H0 H Hs0 Hs : Hp} {P : Addr} {o : HO} (g : Gr H0 H Hs0 Hs) (h0 : H0 P = none) (hs : Hs P = none) : Gr H0 (upd H P o) Hs0 Hs :=
  ⟨fun b u z => by rw [upd_ne (ne_of_none z h0)]; exact g.ex b u z, fun b u z => by rw [upd_ne (ne_of_none z hs)]; exact g.st b u z, g.s, g.nw⟩
/-- repr of what d tells is z -/
def TxD (X : Cx) (k : Nat) (d : D) (z : Str) : Prop := Pn d ∧ ∀ (A : Around) (g : List Code) (base : Nat) (pins : List (Addr × Obj)) (σ : L2.St) (H Hs : Hp) (s : Shared) (v : V) (u : Value) (E : Value → Shared → Prop) (Q : Str → Shared → Prop),
  Room k A → A.frames = X.A.frames → A.guards = some g → GOk X.K Hs (dsz d) g → base + z.length ≤ sizeLine → Inv X pins σ H s → Ex Hs H → Den X.K Hs v d → RelV v u → (∀ s' Hs' H', Inv X pins σ H' s' → Gr H H' Hs Hs' → Q z s') → wpAny (model X.prog X.w) A (pyReprUnder base u) Q E s
section
variable {X : Cx} {k j : Nat} {f C : Addr} {fd : FuncData} {ps : List Str} {S : List D → Res → Prop} {fs : List (Str × D)}
theorem txd_int {i : Int} (h : i.natAbs.log2 < 1920) : TxD X k (.int i) (toString i) := ⟨.int i, fun A g base pins σ H Hs s v u E Q hr hf hg hgo hb I e d r q => by
  cases d
  obtain ⟨t, rfl⟩ := r
  exact ReprIs.int t h base hb A E s Q fun tk => q _ Hs H (I.tok tk) (Gr.refl e)⟩
theorem env0At {pins : List (Addr × Obj)} {σ : L2.St} {H : Hp} {s : Shared} {A : Around} (I : Inv X pins σ H s) (hf : A.frames = X.A.frames) : Env0 X.prog X.w X.K X.mg X.base A X.stack s H :=
  { I.env0 with frames := hf.trans I.env0.frames }
/-- an instance, by its class's __repr__ -/
theorem txd_obj {z : Str} (at_ : PySem.W.findIn X.K (.ref C) "__repr__" = some (some (.ref f))) (fn : PySem.W.isFn X.K (.ref f) = true) (F : FnOk X.prog X.w X.K X.mg X.base CX0 k f fd ps (spD X.K S)) (hb : Binds X.K fd ps []) (hS : S [.obj C fs] (.val (.str z))) (hk : k ≤ j := by decide) : TxD X j (.obj C fs) z :=
  ⟨.obj C fs, fun A g base pins σ H Hs s v u E Q hr hf hg hgo hz I e d r q => by
    have d0 := d
    obtain ⟨a, ox, od, rfl, rfl, J⟩ := inst_of I e d r
    have room := hr.mono hk
    refine wpAny_pyReprUnder_ref (by omega) ?_
    unfold pyReprObjUnder pyReprObjBy
    refine wpAny_bind (wpAny_cRoomFor room.units0 ?_)
    refine wpAny_bind (wpAny_bind (J.type.here ((PySem.W.looks_findIn I.kIn at_).here ?_)))
    simp only [Option.isNone_some, Bool.false_eq_true, if_false]
    have run := runAt (E := E) (Q := fun w H' => w = .str z ∧ ∃ Hs', Gr H H' Hs Hs') F room hb I (env0At I hf) (.cons r .nil) e (.cons d0 .nil) hS (fun w Hs' H' g z => by
      cases z
      exact ⟨rfl, Hs', g⟩)
    have fin : wpAny (model X.prog X.w) A (call (.ref f) [.ref a] >>= fun v => pure (some v)) (fun r s' => ∃ t, r = some (.str z t) ∧ Q z s') E s := by
      refine wpAny_bind (wpAny_mono run (fun u' s' y => ?_) fun _ _ y => y)
      obtain ⟨v', H', I', rv, rfl, Hs', g'⟩ := y
      obtain ⟨t, rfl⟩ := rv
      exact wpAny_pure ⟨t, rfl, q s' Hs' H' I' g'⟩
    refine wpAny_bind (m := callSpecialIfBoundBy? _ (.ref a) (Str.ofString "__repr__")) (wpAny_mono (Q := fun r s' => ∃ t, r = some (.str z t) ∧ Q z s') ?_ (fun r s' y => ?_) fun _ _ y => y)
    · simp only [callSpecialIfBoundBy?, bindSpecialIfBound?]
      refine wpAny_holding (wpAny_bind (wpAny_bind (wpAny_bind (J.type.here ((PySem.W.looks_findIn I.kIn at_).here ?_)))))
      refine wpAny_bind (wpAny_askSetting (wpAny_ite ?_))
      split
      · exact wpAny_bind ((PySem.W.bind_fn I.kIn _ (beq_iff_eq.mp fn)).here (wpAny_pure (by exact fin)))
      · exact wpAny_tryCatch (wpAny_bind ((PySem.W.bind_fn I.kIn _ (beq_iff_eq.mp fn)).here (wpAny_pure (by exact fin))))
    · obtain ⟨t, rfl, y⟩ := y
      refine wpAny_bind (wpAny_isInstance (typeIs_str _ _ _) isSubtype_str_str ?_)
      exact wpAny_pure ⟨z, t, rfl, y⟩⟩
end
theorem vals_strs : ∀ {l : List Str} {us : List Value}, Vals (l.map V.str) us → ∃ done : List (Str × Tok), us = strValues done ∧ done.map (·.1) = l
  | [], _, .nil => ⟨[], rfl, rfl⟩
  | x :: l, _, .cons a b => by
    obtain ⟨t, rfl⟩ := a
    obtain ⟨done, rfl, e⟩ := vals_strs b
    exact ⟨(x, t) :: done, rfl, by rw [List.map_cons, e]⟩
theorem room_under {k : Nat} {A : Around} (h : Room (k + 1) A) (args : Args) : Room k (A.under (.builtin "list.__repr__.loop" args)) := by
  have w1 : (Code.builtin "list.__repr__.loop" args).weight ≤ 1 := by
    have hg := isGuard_list_loop args
    have hc : (Code.builtin "list.__repr__.loop" args).isCreation = false := rfl
    have hd : (Code.builtin "list.__repr__.loop" args).isCaller = false := rfl
    have hf : (Code.builtin "list.__repr__.loop" args).frames = 0 := rfl
    unfold Code.weight
    rw [hg, hc, hd, hf]
    decide
  refine ⟨h.hd, ?_, ?_⟩
  · have := h.dp
    show A.depth + (Code.builtin "list.__repr__.loop" args).weight + 3 * k + 5 < _
    omega
  · have := h.un
    rw [units_under_list_loop]
    omega
section
variable {X : Cx} {k : Nat}
theorem loop_txd {ds : List D} {ts : List Str} {A : Around} {g : List Code} {base : Nat} {pins : List (Addr × Obj)} {σ : L2.St} {a P : Addr} {H0 Hs0 : Hp} {vs : List V} {R : Result → Shared → Prop} (hT : ∀ (i : Nat) (d : D), ds[i]? = some d → ∃ t, ts[i]? = some t ∧ TxD X k d t) (hlen : ts.length = ds.length) (hr : Room (k + 1) A) (hf : A.frames = X.A.frames) (hg : A.guards = some g)
    (hgo : GOk X.K Hs0 (dszs ds + 1) g) (hpn : Pns ds) (hP0 : H0 P = none) (ha : Hs0 a = some (.lst vs)) (hd : Dens X.K Hs0 vs ds) (hsz : base + (listText ts).length ≤ sizeLine) :
    ∀ (n i : Nat) (s : Shared) (H Hs : Hp), ds.length - i = n → i ≤ ds.length → Inv X pins σ H s → Gr H0 H Hs0 Hs → Hs P = none → H P = some (.lst ((ts.take i).map V.str)) → (∀ s' Hs' H' u, Inv X pins σ H' s' → Gr H0 H' Hs0 Hs' → R (.ok (.ret (.str (listText ts) u))) s') →
    codeAny (model X.prog X.w) A (.builtin "list.__repr__.loop" ⟨[.ref a, rawInt i, .ref P, rawInt ((base + piled (ts.take i) : Nat) : Int)], []⟩) R s := by
  have hX : (listText ts).length = (textFrom 0 "[" ts).length + 1 := by
    show (textFrom 0 "[" ts ++ "]").length = _
    rw [strLen_append]
    rfl
  have hL := textFrom_len ts 0 "["
  have hsz2 : ∀ t ∈ ts, t.length ≤ sizeLine := fun t ht => by
    have h2 := hL.2.1 t ht
    omega
  have hp3 := piled_le_listText ts
  have hvl := hd.length
  intro n
  induction n with
  | zero =>
    intro i s H Hs hn hi I gr hPs hP hR
    have hin : i = ds.length := by omega
    obtain ⟨_, its, m, rv, za⟩ : _ ≤ sizeLine ∧ ∃ (its : List Value) (m : Nat), Vals vs its ∧ s.heap.get? a = some { cls := .type "list", data := .seq its.toArray m } := I.hok _ _ (gr.st _ _ (gr.s _ _ ha))
    obtain ⟨_, itp, m2, rp, _, zp⟩ := I.lstM hP
    obtain ⟨done, rfl, hdone⟩ := vals_strs rp
    refine codeAny_builtin F.entry_list_repr_loop ?_
    show wpAny _ _ («list.__repr__.loop» ⟨[.ref a, .int i 0, .ref P, .int ((base + piled (ts.take i) : Nat) : Int) 0], []⟩) _ _ s
    rw [repr_loop_tree]
    refine wpAny_bind (wpAny_listItems za rfl ?_)
    have hnone : its.toArray[(i : Int).toNat]? = none := by
      have := rv.length
      simp
      omega
    simp only [hnone]
    unfold reprEnd
    refine wpAny_bind (wpAny_listItems zp rfl ?_)
    show wpAny _ _ (forIn ((strValues done).toArray.toList.zipIdx) _ reprBody >>= _) _ _ _
    rw [List.toList_toArray, repr_fold]
    refine wpAny_bind (wpAny_pure ?_)
    have hall : done.map (·.1) = ts := by rw [hdone, hin, ← hlen, List.take_length]
    rw [hall]
    have hsz3 : (listText ts).length ≤ sizeLine := by omega
    refine wpAny_bind (wpAny_mkStr (wpAny_pure ?_) hsz3)
    exact hR _ Hs H _ (I.tok _) gr
  | succ n ih =>
    intro i s H Hs hn hi I gr hPs hP hR
    have hlt : i < ds.length := by omega
    have e1 : ds[i]? = some ds[i] := List.getElem?_eq_getElem hlt
    obtain ⟨t, ht, hpd, hrep⟩ := hT i ds[i] e1
    obtain ⟨v, hv, hdv⟩ := hd.get e1
    have hp1 := piled_take_succ ht
    have hp2 := piled_take_le ts (i + 1)
    obtain ⟨_, its, m, rv, za⟩ : _ ≤ sizeLine ∧ ∃ (its : List Value) (m : Nat), Vals vs its ∧ s.heap.get? a = some { cls := .type "list", data := .seq its.toArray m } := I.hok _ _ (gr.st _ _ (gr.s _ _ ha))
    obtain ⟨u, hu, ru⟩ : ∃ u, its[i]? = some u ∧ RelV v u := by
      rcases vals_get i rv with ⟨z, _⟩ | ⟨v', u, z1, z2, z3⟩
      · rw [z] at hv; cases hv
      · rw [hv] at z1
        cases z1
        exact ⟨u, z2, z3⟩
    refine codeAny_builtin F.entry_list_repr_loop ?_
    show wpAny _ _ («list.__repr__.loop» ⟨[.ref a, .int i 0, .ref P, .int ((base + piled (ts.take i) : Nat) : Int) 0], []⟩) _ _ s
    rw [repr_loop_tree]
    refine wpAny_bind (wpAny_listItems za rfl ?_)
    have hsome : its.toArray[(i : Int).toNat]? = some u := by simpa using hu
    simp only [hsome]
    rw [Int.toNat_natCast]
    have gok : GOk X.K Hs (dsz ds[i]) (Code.builtin "list.__repr__.loop" ⟨[.ref a, .int i 0, .ref P, .int ((base + piled (ts.take i) : Nat) : Int) 0], []⟩ :: g) := fun id v' rest kw hm b hb => by
      have le := dsz_mem e1
      rcases List.mem_cons.mp hm with q | q
      · cases q
        cases hb
        refine ⟨.lst ds, (Den.lst ha hd).mono gr.s, .lst hpn, ?_⟩
        show dsz ds[i] < dszs ds + 1
        omega
      · obtain ⟨e, q1, q2, q3⟩ := hgo id v' rest kw q b hb
        exact ⟨e, q1.mono gr.s, q2, by omega⟩
    refine wpAny_bind (wpAny_holding (hrep _ _ (base + piled (ts.take i) + 1) pins σ H Hs s v u _ _ (room_under hr _) hf (guards_under_guard (isGuard_list_loop _) hg) gok (by omega) I gr.st (hdv.mono gr.s) ru fun s1 Hs1 H1 I1 g1 => ?_))
    refine wpAny_bind (wpAny_mkStr ?_ (hsz2 t (List.mem_of_getElem? ht)))
    refine wpAny_bind ?_
    show wpAny _ _ (updateSeq P _) _ _ _
    have hP1 := g1.ex _ _ hP
    have hPs1 := g1.nw _ _ hP hPs
    have I2 := I1.tok (s1.toks + 1)
    obtain ⟨hz1, itp, m2, rp, hlp, zp⟩ := I2.lstM hP1
    have I3 := I2.lset (its' := itp ++ [.str t s1.toks]) (ys := (ts.take i).map V.str ++ [V.str t]) (f := fun xs => xs.push (.str t s1.toks)) (t' := s1.toks + 1) hP1 zp (by simp) (rp.append (.cons ⟨_, rfl⟩ .nil)) (by
      rw [List.length_append, List.length_map, List.length_take]
      have h1 := hL.1
      rw [if_neg (Nat.lt_irrefl 0)] at h1
      show min i ts.length + 1 ≤ sizeLine
      omega)
    refine wpAny_updateSeq zp rfl (wpAny_pure ⟨F.quiet_list_repr_loop _, ?_⟩) (by rw [List.size_toArray, ← hlp]; exact hz1)
    have q1 : ((i : Int) + 1) = ((i + 1 : Nat) : Int) := by omega
    have q2 : base + piled (ts.take i) + (t.length + 2) = base + piled (ts.take (i + 1)) := by omega
    rw [q1, q2]
    refine ih (i + 1) _ _ Hs1 (by omega) hlt I3 ((gr.trans g1).updo hP0 hPs1) hPs1 ?_ hR
    rw [upd_same, take_step ht, List.map_append]
    rfl
end
section
variable {X : Cx} {k j : Nat}
/-- no repr of this object is under way -/
theorem gok_ne {K : PySem.W.Frag} {Hs : Hp} {d : D} {g : List Code} {a : Addr} (h : GOk K Hs (dsz d) g) (p : Pn d) (q : Den K Hs (.ref a) d) (id : String) (v : Value) (rest : List Value) (kw : List (Str × Value)) (hm : Code.builtin id ⟨v :: rest, kw⟩ ∈ g) : v ≠ .ref a := fun e => by
  obtain ⟨d', h1, h2, h3⟩ := h id v rest kw hm a e
  have := dsz_fun p q h2 h1
  omega
theorem reprAt_txd {ds : List D} {ts : List Str} {A : Around} {g : List Code} {base : Nat} {pins : List (Addr × Obj)} {σ : L2.St} {a : Addr} {H Hs : Hp} {s : Shared} {vs : List V} {R : Result → Shared → Prop} (hT : ∀ (i : Nat) (d : D), ds[i]? = some d → ∃ t, ts[i]? = some t ∧ TxD X k d t) (hlen : ts.length = ds.length) (hr : Room (k + 1) A) (hf : A.frames = X.A.frames) (hg : A.guards = some g)
    (hgo : GOk X.K Hs (dsz (.lst ds)) g) (hpn : Pns ds) (hne : ds ≠ []) (I : Inv X pins σ H s) (e : Ex Hs H) (ha : Hs a = some (.lst vs)) (hd : Dens X.K Hs vs ds) (hsz : base + (listText ts).length ≤ sizeLine) (hR : ∀ s' Hs' H' u, Inv X pins σ H' s' → Gr H H' Hs Hs' → R (.ok (.ret (.str (listText ts) u))) s') :
    wpAny (model X.prog X.w) A.in1 (Builtin.listReprAt base ⟨[.ref a], []⟩) (fun fin s' => match fin with | .done f => R (.ok f) s' | .again c' => c'.quiet = true ∧ codeAny (model X.prog X.w) A c' R s') (fun e s' => R (.error e) s') s := by
  obtain ⟨_, its, m, rv, za⟩ : _ ≤ sizeLine ∧ ∃ (its : List Value) (m : Nat), Vals vs its ∧ s.heap.get? a = some { cls := .type "list", data := .seq its.toArray m } := I.hok _ _ (e _ _ ha)
  cases its with
  | nil =>
    have l1 := rv.length
    have l2 := hd.length
    exact absurd (List.eq_nil_of_length_eq_zero (by rw [← l2, l1]; rfl)) hne
  | cons x l =>
    refine wpAny_list_repr_head (A := A.in1) hg (fun v rest kw hm => listSameRef_of_ne (gok_ne hgo (.lst hpn) (.lst ha hd) _ _ _ _ hm)) za rfl ?_
    refine wpAny_bind (m := newList []) (wpAny_newObj_type ?_)
    refine wpAny_pure ⟨F.quiet_list_repr_loop _, ?_⟩
    have hP : H s.heap.objs.size = none := I.hok.fresh (Nat.le_refl _)
    have I1 : Inv X pins σ (upd H s.heap.objs.size (.lst [])) { s with heap := s.heap.push { cls := .type "list", dict := none, data := .seq #[] } } :=
      I.laid (t' := s.toks) (fun b u e => Heap.get?_push_of_some _ e) (Nat.le_refl _) ⟨Nat.zero_le _, [], 0, .nil, Heap.get?_push_size _ rfl⟩
    exact loop_txd (H0 := H) (Hs0 := Hs) hT hlen hr hf hg hgo hpn hP ha hd hsz ds.length 0 _ _ Hs rfl (Nat.zero_le _) I1 ((Gr.refl e).updo hP (e.none hP)) (e.none hP) upd_same hR
/-- a list -/
theorem txd_lst {ds : List D} {ts : List Str} (hpn : Pns ds) (hT : ∀ (i : Nat) (d : D), ds[i]? = some d → ∃ t, ts[i]? = some t ∧ TxD X k d t) (hlen : ts.length = ds.length) (hk : k + 1 ≤ j := by decide) : TxD X j (.lst ds) (listText ts) :=
  ⟨.lst hpn, fun A g base pins σ H Hs s v u E Q hr hf hg hgo hb I e d r q => by
    cases d with
    | @lst a vs _ ha hd =>
      cases r
      have room : Room (k + 1) A := hr.mono hk
      obtain ⟨_, its, m, rv, za⟩ : _ ≤ sizeLine ∧ ∃ (its : List Value) (m : Nat), Vals vs its ∧ s.heap.get? a = some { cls := .type "list", data := .seq its.toArray m } := I.hok _ _ (e _ _ ha)
      have hTy : s.TypeIs (.ref a) "list" := ⟨_, za, rfl⟩
      refine wpAny_pyReprUnder_ref (by omega) ?_
      cases ds with
      | nil =>
        cases hd
        cases rv
        have e0 : ts = [] := List.eq_nil_of_length_eq_zero hlen
        subst e0
        exact wpAny_pyReprObjUnder_list_empty hTy room.units0 za rfl ⟨_, _, rfl, q _ Hs H (I.tok _) (Gr.refl e)⟩
      | cons d0 dr =>
        refine wpAny_pyReprObjUnder_twin (twin := "list.__repr__.under") hTy F.slot_list_repr.toG rfl room.units0 ?_
        refine call_twin_plain F.plain_list_repr_under F.entry_list_repr_under F.check_list_repr_under hTy F.slot_list_repr.toG (F.args_list_repr_1 _) ?_
        exact reprAt_txd (R := callEnd _ E) hT hlen room hf hg hgo hpn (by simp) I e ha hd hb fun s' Hs' H' t I' g' => ⟨⟨_, _, rfl⟩, _, _, rfl, q s' Hs' H' I' g'⟩⟩
theorem cd_reprT {ds : List D} {ts : List Str} (nog : X.A.guards = some []) (hpn : Pns ds) (hT : ∀ (i : Nat) (d : D), ds[i]? = some d → ∃ t, ts[i]? = some t ∧ TxD X k d t) (hlen : ts.length = ds.length) (hsz : (listText ts).length ≤ sizeLine) (hr : Room j X.A) (hk : k + 2 ≤ j := by decide) : CallD X (.builtin "repr") [.lst ds] (.val (.str (listText ts))) := by
  intro pins s σ H xs us Q I r1 ⟨Hs, e, dn, kq⟩
  obtain ⟨v, rfl, d1⟩ := one dn
  obtain ⟨u, rfl, r2⟩ := vals1 r1
  have room : Room (k + 2) X.A := hr.mono hk
  cases d1 with
  | @lst a vs _ ha hd =>
    cases r2
    obtain ⟨_, its, m, rv, za⟩ : _ ≤ sizeLine ∧ ∃ (its : List Value) (m : Nat), Vals vs its ∧ s.heap.get? a = some { cls := .type "list", data := .seq its.toArray m } := I.hok _ _ (e _ _ ha)
    have hTy : s.TypeIs (.ref a) "list" := ⟨_, za, rfl⟩
    refine Calls.call_function_entry PySem.F.kind_repr PySem.F.plain_repr PySem.F.entry_repr (PySem.F.args_repr1 _) ?_
    unfold Builtin.«repr»
    refine wpAny_bind (m := oneArg "repr" _) (wpAny_pure ?_)
    refine wpAny_bind (wpAny_cRoomFor room.in1.units0 ?_)
    refine wpAny_bind (wpAny_specialOf (name := Str.ofString "__repr__") hTy F.slot_list_repr.lookup ?_)
    have done : ∀ s' Hs' H' t, Inv X pins σ H' s' → Gr H H' Hs Hs' → wpAny (model X.prog X.w) X.A.in1 (do if ← isInstance (.str (listText ts) t) (.type "str") then ret (.str (listText ts) t) else rule "repr.not-str"; raiseError "TypeError" s!"__repr__ returned non-string (type {← typeNameOf (.str (listText ts) t)})") (fun fin s' => ∃ v, fin = .done (.ret v) ∧ EP X pins σ Q v s') X.xe s' := fun s' Hs' H' t I' g' => by
      refine wpAny_bind (wpAny_isInstance (T := "str") (b := true) rfl isSubtype_str_str ?_)
      exact wpAny_pure ⟨_, rfl, .str _, H', I', ⟨_, rfl⟩, kq _ Hs' H' g' (.str _)⟩
    cases ds with
    | nil =>
      cases hd
      cases rv
      have e0 : ts = [] := List.eq_nil_of_length_eq_zero hlen
      subst e0
      refine wpAny_bind (m := callSpecialIfBound? (.ref a) (Str.ofString "__repr__")) (wpAny_callSpecialIfBound?_slot (name := Str.ofString "__repr__") hTy F.slot_list_repr (call_list_repr_empty hTy za rfl ?_))
      exact done _ Hs H _ (I.tok _) (Gr.refl e)
    | cons d0 dr =>
      refine wpAny_bind (m := callSpecialIfBound? (.ref a) (Str.ofString "__repr__")) (wpAny_callSpecialIfBound?_slot (name := Str.ofString "__repr__") hTy F.slot_list_repr ?_)
      refine wpAny_call (codeAny_call_builtin F.slot_list_repr.plain F.entry_list_repr (F.slot_list_repr.check _ _ _ _ _ _ _ _ hTy (F.args_list_repr_1 _) ?_))
      exact reprAt_txd (A := X.A.in1) (g := []) (base := 0) (R := callEnd _ X.xe) hT hlen room.in1 rfl nog (fun _ _ _ _ h => nomatch h) hpn (by simp) I e ha hd (by omega) fun s' Hs' H' t I' g' => done s' Hs' H' t I' g'
end
inductive TxDs (X : Cx) (k : Nat) : List D → List Str → Prop
  | nil : TxDs X k [] []
  | cons {d : D} {t : Str} {ds : List D} {ts : List Str} (h : TxD X k d t) (r : TxDs X k ds ts) : TxDs X k (d :: ds) (t :: ts)
section
variable {X : Cx} {k j : Nat}
theorem TxDs.length : ∀ {ds : List D} {ts : List Str}, TxDs X k ds ts → ts.length = ds.length
  | _, _, .nil => rfl
  | _, _, .cons _ r => congrArg Nat.succ (TxDs.length r)
theorem TxDs.get : ∀ {ds : List D} {ts : List Str}, TxDs X k ds ts → ∀ (i : Nat) (d : D), ds[i]? = some d → ∃ t, ts[i]? = some t ∧ TxD X k d t
  | _, _, .nil, _, _, e => by simp at e
  | _, _, .cons h r, 0, d, e => by
    simp at e
    subst e
    exact ⟨_, rfl, h⟩
  | _, _, .cons h r, i + 1, d, e => by
    obtain ⟨t, h1, h2⟩ := TxDs.get r i d (by simpa using e)
    exact ⟨t, by simpa using h1, h2⟩
theorem TxDs.pns : ∀ {ds : List D} {ts : List Str}, TxDs X k ds ts → Pns ds
  | _, _, .nil => .nil
  | _, _, .cons h r => .cons h.1 (TxDs.pns r)
theorem fold_txd {A : Around} {g : List Code} {E : Value → Shared → Prop} {pins : List (Addr × Obj)} {σ : L2.St} (hr : Room k A) (hf : A.frames = X.A.frames) (hg : A.guards = some g) : ∀ {ds : List D} {ts : List Str} (us : List Value) (vs : List V) (acc : Array Str) (n : Nat) (s : Shared) (H Hs : Hp) (Q : (Array Str × Nat) → Shared → Prop), TxDs X k ds ts → Vals vs us → Dens X.K Hs vs ds → n + piled ts ≤ sizeLine →
    Inv X pins σ H s → Ex Hs H → GOk X.K Hs (dszs ds) g → (∀ s' Hs' H', Inv X pins σ H' s' → Gr H H' Hs Hs' → Q ⟨acc ++ ts.toArray, n + piled ts⟩ s') → wpAny (model X.prog X.w) A (forIn us (⟨acc, n⟩ : (Array Str × Nat)) tupBody) Q E s
  | _, _, _, _, acc, n, s, H, Hs, Q, .nil, rv, hd, hn, I, e, go, q => by
    cases hd
    cases rv
    simp only [List.forIn_nil]
    exact wpAny_pure (by simpa [piled] using q s Hs H I (Gr.refl e))
  | _, _, _, _, acc, n, s, H, Hs, Q, @TxDs.cons _ _ d t ds ts h r, rv, hd, hn, I, e, go, q => by
    cases hd with
    | cons a b =>
      cases rv with
      | cons ra rb =>
        rw [piled_cons] at hn
        rw [List.forIn_cons]
        refine wpAny_bind (wpAny_bind (h.2 A g (n + 1) pins σ H Hs s _ _ _ _ hr hf hg (go.mono (Ex.refl _) (by show dsz d ≤ max (dsz d) (dszs ds); exact Nat.le_max_left _ _)) (by omega) I e a ra fun s1 Hs1 H1 I1 g1 => wpAny_pure ?_))
        refine fold_txd hr hf hg _ _ (acc.push t) (n + (t.length + 2)) s1 H1 Hs1 Q r rb (b.mono g1.s) (by omega) I1 g1.st (go.mono g1.s (by show dszs ds ≤ max (dsz d) (dszs ds); exact Nat.le_max_right _ _)) fun s2 Hs2 H2 I2 g2 => ?_
        have z := q s2 Hs2 H2 I2 (g1.trans g2)
        have e2 : n + piled (t :: ts) = n + (t.length + 2) + piled ts := by rw [piled_cons]; omega
        rw [e2] at z
        simpa using z
theorem reprAt_tup {ds : List D} {ts : List Str} {A : Around} {g : List Code} {base : Nat} {pins : List (Addr × Obj)} {σ : L2.St} {a : Addr} {H Hs : Hp} {s : Shared} {vs : List V} {R : Result → Shared → Prop} {id : String} {rest : List Value} (hcg : (Code.builtin id ⟨.ref a :: rest, []⟩).isGuard = true) (hru : Room k (A.under (.builtin id ⟨.ref a :: rest, []⟩))) (hfu : (A.under (.builtin id ⟨.ref a :: rest, []⟩)).frames = A.frames)
    (hT : TxDs X k ds ts) (hf : A.frames = X.A.frames) (hg : A.guards = some g) (hgo : GOk X.K Hs (dsz (.tup ds)) g) (I : Inv X pins σ H s) (e : Ex Hs H) (ha : Hs a = some (.tup vs)) (hd : Dens X.K Hs vs ds) (hsz : base + (tupleText ts).length ≤ sizeLine) (hR : ∀ s' Hs' H' u, Inv X pins σ H' s' → Gr H H' Hs Hs' → R (.ok (.ret (.str (tupleText ts) u))) s') :
    wpOwn (model X.prog X.w) A (.builtin id ⟨.ref a :: rest, []⟩) (Builtin.tupleReprAt base ⟨[.ref a], []⟩) (fun fin s' => match fin with | .done f => R (.ok f) s' | .again c' => c'.quiet = true ∧ codeAny (model X.prog X.w) A c' R s') (fun e s' => R (.error e) s') s := by
  obtain ⟨_, its, rv, o, za, hc, n, zd⟩ := (show ObjOk X.prog X.w H s.heap _ (.tup _) from I.hok _ _ (e _ _ ha))
  have hpn := hT.pns
  have hlen : ts.length = its.length := by rw [hT.length, ← hd.length, rv.length]
  have hp := piled_le_tupleText ts
  have hsz0 : (tupleText ts).length ≤ sizeLine := by omega
  rw [tuple_repr_tree, tupleReprUnderWay_eq]
  refine wpOwn_bind (wpOwn_stackTailAny hg (tupGuardF_off _) (tupGuardF_pos _) ?_)
  have clr : Clear g a := fun id v rest kw hm => gok_ne hgo (.tup hpn) (.tup ha hd) id v rest kw hm
  have hn : (g.any fun c => tupGuardF (.ref a) (c, default)) = false := by
    rw [List.any_eq_false]
    intro c hcm
    rw [tupGuardF_of_clear clr c hcm]
    exact Bool.false_ne_true
  rw [hn]
  refine wpOwn_of_wpAny ?_
  show wpAny _ _ (tupleReprRest base (.ref a)) _ _ s
  unfold tupleReprRest Builtin.Tuple.tupleItemsOf
  refine wpAny_bind (wpAny_bind (wpAny_seqItems za zd (wpAny_pure ?_)))
  rw [← Array.forIn_toList]
  have gok : GOk X.K Hs (dszs ds) (Code.builtin id ⟨.ref a :: rest, []⟩ :: g) := fun id' v' rest' kw hm b hb => by
    rcases List.mem_cons.mp hm with q | q
    · cases q
      cases hb
      refine ⟨.tup ds, .tup ha hd, .tup hpn, ?_⟩
      show dszs ds < dszs ds + 1
      omega
    · obtain ⟨e', q1, q2, q3⟩ := hgo id' v' rest' kw q b hb
      refine ⟨e', q1, q2, ?_⟩
      have q4 : dszs ds + 1 < dsz e' := q3
      omega
  refine wpAny_bind (fold_txd hru (hfu.trans hf) (guards_under_guard hcg hg) its vs #[] base s H Hs _ hT rv hd (by omega) I e gok fun s' Hs' H' I' g' => ?_)
  refine wpAny_bind (wpAny_mkStr (wpAny_pure ?_) (by simpa [tupleText, hlen] using hsz0))
  have h1 := hR _ Hs' H' s'.toks (I'.tok (s'.toks + 1)) g'
  simpa [tupleText, hlen] using h1
end
theorem room_underG {k : Nat} {A : Around} {id : String} {args : Args} (h : Room (k + 1) A) (hg : (Code.builtin id args).isGuard = true) (hu : (A.under (.builtin id args)).units = A.units + 1) (hc : (Code.builtin id args).isCreation = false := by rfl) (hd : (Code.builtin id args).isCaller = false := by rfl) (hf : (Code.builtin id args).frames = 0 := by rfl) : Room k (A.under (.builtin id args)) := by
  have w1 : (Code.builtin id args).weight ≤ 1 := by
    unfold Code.weight
    rw [hg, hc, hd, hf]
    decide
  refine ⟨h.hd, ?_, ?_⟩
  · have := h.dp
    show A.depth + (Code.builtin id args).weight + 3 * k + 5 < _
    omega
  · have := h.un
    rw [hu]
    omega
section
variable {X : Cx} {k j : Nat}
theorem txd_tup {ds : List D} {ts : List Str} (hT : TxDs X k ds ts) (hk : k + 1 ≤ j := by decide) : TxD X j (.tup ds) (tupleText ts) :=
  ⟨.tup hT.pns, fun A g base pins σ H Hs s v u E Q hr hf hg hgo hb I e d r q => by
    cases d with
    | @tup a vs _ ha hd =>
      cases r
      have room : Room (k + 1) A := hr.mono hk
      obtain ⟨_, its, rv, o, za, hc, n, zd⟩ := (show ObjOk X.prog X.w H s.heap _ (.tup _) from I.hok _ _ (e _ _ ha))
      have hTy : s.TypeIs (.ref a) "tuple" := ⟨o, za, hc⟩
      refine wpAny_pyReprUnder_ref (by omega) (wpAny_pyReprObjUnder_twin (twin := "tuple.__repr__.under") hTy F.slot_tuple_repr rfl room.units0 ?_)
      refine call_twin_own (F.quiet_tuple_repr_under _) F.entry_tuple_repr_under F.check_tuple_repr_under hTy F.slot_tuple_repr (F.args_tuple_repr_1 _) ?_
      exact reprAt_tup (R := callEnd _ E) (isGuard_tuple_repr_under _) (room_underG room (isGuard_tuple_repr_under _) (units_under_tuple_repr_under _ _)) rfl hT hf hg hgo I e ha hd hb fun s' Hs' H' t I' g' => ⟨⟨_, _, rfl⟩, _, _, rfl, q s' Hs' H' I' g'⟩⟩
theorem txd_lsts {ds : List D} {ts : List Str} (hT : TxDs X k ds ts) (hk : k + 1 ≤ j := by decide) : TxD X j (.lst ds) (listText ts) := txd_lst hT.pns hT.get hT.length hk
end
end Dn
end
section
set_option Elab.async false
set_option linter.all false
set_option maxRecDepth 100000
set_option maxHeartbeats 2000000
/-! DEq: == and != of lists whose items may be instances of own classes. -/
namespace Dn
open PySem PySem.Spec L2
section
open PySem.SeqAt
open AutoSeq1 (wpAny_loadPart')
open MeetsSeq MeetsSeq2 MeetsSeq3 SeqRoads2
variable {prog : Program} {w : World} {A : Around} {R : Result → Shared → Prop}
/-- two lists of N items each, as they stand -/
def Two (l b : Addr) (N : Nat) (s : Shared) : Prop := ∃ (items items2 : Array Value) (n n2 : Nat), s.heap.get? l = some { cls := .type "list", data := .seq items n } ∧ s.heap.get? b = some { cls := .type "list", data := .seq items2 n2 } ∧ items.size = N ∧ items2.size = N
/-- at each turn: the lists stand, the i-th items are compared -/
def Turns (prog : Program) (w : World) (A : Around) (E : Value → Shared → Prop) (l b : Addr) (N : Nat) (bs : Nat → Bool) (I : Nat → Shared → Prop) : Prop :=
  ∀ i s, I i s → Two l b N s ∧ ∀ (items items2 : Array Value) (n n2 : Nat), s.heap.get? l = some { cls := .type "list", data := .seq items n } → s.heap.get? b = some { cls := .type "list", data := .seq items2 n2 } →
    ∀ (h1 : i < items.size) (h2 : i < items2.size), wpAny (model prog w) A.in1 (eqBool items[i] items2[i]) (fun r s' => r = bs i ∧ I (i + 1) s' ∧ Two l b N s') E s
theorem cmp_loop2 (l b : Addr) (N : Nat) (bs : Nat → Bool) (ans : Nat → Bool) (I : Nat → Shared → Prop) (hT : Turns prog w A (fun e s' => R (.error e) s') l b N bs I) (a0 : ans N = true) (a1 : ∀ i, i < N → ans i = (bs i && ans (i + 1))) (fin : ∀ i s, I i s → R (.ok (.ret (.bool (ans 0)))) s) (k : Nat) :
    ∀ i : Nat, N - i = k → i ≤ N → ans i = ans 0 → ∀ s, I i s → wpAny (model prog w) A.in1 (Builtin.«list.__eq__.loop» ⟨[.ref l, .ref b, rawInt i, rawInt 2], []⟩) (GQ.FinOf prog w A R) (fun e s' => R (.error e) s') s := by
  induction k with
  | zero =>
    intro i hk hi he s h
    obtain ⟨⟨items, items2, n, n2, hl1, hb1, hs1, hs2⟩, _⟩ := hT _ _ h
    have hi' : i = N := by omega
    have hR := fin i s h
    rw [← he, hi', a0] at hR
    obtain ⟨hp, g, d, tk, os⟩ := s
    wp_walk using wpAny_loadPart' hl1, wpAny_loadPart' hb1
    have hi1 : items[((i : Nat) : Int).toNat]? = none := by simp; omega
    have hi2 : items2[((i : Nat) : Int).toNat]? = none := by simp; omega
    rw [hi1, hi2]
    wp_walk using wpAny_loadPart' hl1, wpAny_loadPart' hb1
    show R (.ok (.ret (.bool (items.size == items2.size)))) _
    rw [hs1, hs2]
    simpa using hR
  | succ k ih =>
    intro i hk hi he s h
    obtain ⟨⟨items, items2, n, n2, hl1, hb1, hs1, hs2⟩, turn⟩ := hT _ _ h
    have hlt : i < items.size := by omega
    have hlt2 : i < items2.size := by omega
    have ht := turn items items2 n n2 hl1 hb1 hlt hlt2
    obtain ⟨hp, g, d, tk, os⟩ := s
    wp_walk using wpAny_loadPart' hl1, wpAny_loadPart' hb1
    have hi1 : items[((i : Nat) : Int).toNat]? = some items[i] := by simp [hlt]
    have hi2 : items2[((i : Nat) : Int).toNat]? = some items2[i] := by simp [hlt2]
    have hc : ((i : Int) + 1) = ((i + 1 : Nat) : Int) := by omega
    rw [hi1, hi2]
    refine wpAny_bind (wpAny_mono ht (fun r s2 h2 => ?_) fun _ _ x => x)
    obtain ⟨hr, h2, tw⟩ := h2
    subst hr
    have ha := a1 i (by omega)
    cases hbi : bs i with
    | true =>
      rw [hbi, Bool.true_and] at ha
      have hrec := ih (i + 1) (by omega) (by omega) (ha ▸ he) s2 h2
      obtain ⟨hp2, g2, d2, tk2, os2⟩ := s2
      wp_walk
      rw [hc]
      exact ⟨plainId_quiet plain_eq_loop _, codeAny_builtin entry_eq_loop (by
        rw [Around.under_plainId plain_eq_loop _]
        exact hrec)⟩
    | false =>
      rw [hbi, Bool.false_and] at ha
      have hR := fin (i + 1) s2 h2
      rw [← he, ha] at hR
      obtain ⟨it, it2, m, m2, hl2, hb2, hz1, hz2⟩ := tw
      have g1 : it[((i : Nat) : Int).toNat]? = some (it[i]'(by omega)) := by simp
      have g2 : it2[((i : Nat) : Int).toNat]? = some (it2[i]'(by omega)) := by simp
      obtain ⟨hp2, gg2, d2, tk2, os2⟩ := s2
      wp_walk using wpAny_loadPart' hl2, wpAny_loadPart' hb2
      rw [g1, g2]
      wp_walk
      simpa using hR
theorem list_cmp2 (l b : Addr) (N : Nat) (bs : Nat → Bool) (ans : Nat → Bool) (I : Nat → Shared → Prop) (hT : Turns prog w A (fun e s' => R (.error e) s') l b N bs I) (a0 : ans N = true) (a1 : ∀ i, i < N → ans i = (bs i && ans (i + 1))) (fin : ∀ i s, I i s → R (.ok (.ret (.bool (ans 0)))) s) {s : Shared} (h : I 0 s) :
    wpAny (model prog w) A.in1 (Builtin.«list.__eq__» ⟨[.ref l, .ref b], []⟩) (GQ.FinOf prog w A R) (fun e s' => R (.error e) s') s := by
  obtain ⟨⟨items, items2, n, n2, hl1, hb1, hs1, hs2⟩, _⟩ := hT _ _ h
  have hrec := cmp_loop2 (A := A) (R := R) l b N bs ans I hT a0 a1 fin _ 0 rfl (Nat.zero_le _) rfl s h
  obtain ⟨hp, g, d, tk, os⟩ := s
  have f3 := AutoSeq1.sub_list_list
  have hne : ¬ (items.size != items2.size) = true := by simp [hs1, hs2]
  wp_walk using wpAny_loadPart' hl1, wpAny_loadPart' hb1
  exact ⟨plainId_quiet plain_eq_loop _, codeAny_builtin entry_eq_loop (by
    rw [Around.under_plainId plain_eq_loop _]
    exact hrec)⟩
theorem rc_cmp2 {E : Value → Shared → Prop} {l b : Addr} {N : Nat} {bs : Nat → Bool} {ans : Nat → Bool} {Q : Value → Shared → Prop} (hu : A.units < cLine) (I : Nat → Shared → Prop) (hT : Turns prog w A E l b N bs I) (a0 : ans N = true) (a1 : ∀ i, i < N → ans i = (bs i && ans (i + 1))) (fin : ∀ i s, I i s → Q (.bool (ans 0)) s) {s : Shared} (h : I 0 s) : wpAny (model prog w) A (richCompare .Eq (.ref l) (.ref b)) Q E s := by
  obtain ⟨⟨items, items2, n, n2, hl1, hb1, _, _⟩, _⟩ := hT _ _ h
  refine wpAny_richCompare_same_room (op := .Eq) ⟨_, hl1, rfl⟩ ⟨_, hb1, rfl⟩ F.slot_list_eq (GQ.call_here F.slot_list_eq ⟨_, hl1, rfl⟩ F.entry_list_eq (F.args_list_eq_2 _ _) ?_) hu
  exact list_cmp2 (R := wants (fun v s' => v ≠ .notImplemented ∧ Q v s') E) l b N bs ans I hT a0 a1 (fun i s' q => ⟨(fun x => nomatch x), fin i s' q⟩) h
/-- lists of other lengths -/
theorem rc_len2 {E : Value → Shared → Prop} {l b : Addr} {Q : Value → Shared → Prop} {items items2 : Array Value} {n n2 : Nat} (hu : A.units < cLine) {s : Shared} (hl1 : s.heap.get? l = some { cls := .type "list", data := .seq items n }) (hb1 : s.heap.get? b = some { cls := .type "list", data := .seq items2 n2 }) (hne : items.size ≠ items2.size) (q : Q (.bool false) s) : wpAny (model prog w) A (richCompare .Eq (.ref l) (.ref b)) Q E s := by
  refine wpAny_richCompare_same_room (op := .Eq) ⟨_, hl1, rfl⟩ ⟨_, hb1, rfl⟩ F.slot_list_eq (GQ.call_here F.slot_list_eq ⟨_, hl1, rfl⟩ F.entry_list_eq (F.args_list_eq_2 _ _) ?_) hu
  obtain ⟨hp, g, d, tk, os⟩ := s
  have f3 := AutoSeq1.sub_list_list
  have hne : (items.size != items2.size) = true := by simpa using hne
  wp_walk using wpAny_loadPart' hl1, wpAny_loadPart' hb1
  exact ⟨(fun x => nomatch x), q⟩
theorem cmp_loop3 (l b : Addr) (N : Nat) (bs : Nat → Bool) (ans : Nat → Bool) (I : Nat → Shared → Prop) (hT : Turns prog w A (fun e s' => R (.error e) s') l b N bs I) (a0 : ans N = true) (a1 : ∀ i, i < N → ans i = (bs i && ans (i + 1))) (fin : ∀ i s, I i s → R (.ok (.ret (.bool (!ans 0)))) s) (k : Nat) :
    ∀ i : Nat, N - i = k → i ≤ N → ans i = ans 0 → ∀ s, I i s → wpAny (model prog w) A.in1 (Builtin.«list.__eq__.loop» ⟨[.ref l, .ref b, rawInt i, rawInt 3], []⟩) (GQ.FinOf prog w A R) (fun e s' => R (.error e) s') s := by
  induction k with
  | zero =>
    intro i hk hi he s h
    obtain ⟨⟨items, items2, n, n2, hl1, hb1, hs1, hs2⟩, _⟩ := hT _ _ h
    have hi' : i = N := by omega
    have hR := fin i s h
    rw [← he, hi', a0] at hR
    obtain ⟨hp, g, d, tk, os⟩ := s
    wp_walk using wpAny_loadPart' hl1, wpAny_loadPart' hb1
    have hi1 : items[((i : Nat) : Int).toNat]? = none := by simp; omega
    have hi2 : items2[((i : Nat) : Int).toNat]? = none := by simp; omega
    rw [hi1, hi2]
    wp_walk using wpAny_loadPart' hl1, wpAny_loadPart' hb1
    show R (.ok (.ret (.bool (items.size != items2.size)))) _
    rw [hs1, hs2]
    simpa using hR
  | succ k ih =>
    intro i hk hi he s h
    obtain ⟨⟨items, items2, n, n2, hl1, hb1, hs1, hs2⟩, turn⟩ := hT _ _ h
    have hlt : i < items.size := by omega
    have hlt2 : i < items2.size := by omega
    have ht := turn items items2 n n2 hl1 hb1 hlt hlt2
    obtain ⟨hp, g, d, tk, os⟩ := s
    wp_walk using wpAny_loadPart' hl1, wpAny_loadPart' hb1
    have hi1 : items[((i : Nat) : Int).toNat]? = some items[i] := by simp [hlt]
    have hi2 : items2[((i : Nat) : Int).toNat]? = some items2[i] := by simp [hlt2]
    have hc : ((i : Int) + 1) = ((i + 1 : Nat) : Int) := by omega
    rw [hi1, hi2]
    refine wpAny_bind (wpAny_mono ht (fun r s2 h2 => ?_) fun _ _ x => x)
    obtain ⟨hr, h2, tw⟩ := h2
    subst hr
    have ha := a1 i (by omega)
    cases hbi : bs i with
    | true =>
      rw [hbi, Bool.true_and] at ha
      have hrec := ih (i + 1) (by omega) (by omega) (ha ▸ he) s2 h2
      obtain ⟨hp2, g2, d2, tk2, os2⟩ := s2
      wp_walk
      rw [hc]
      exact ⟨plainId_quiet plain_eq_loop _, codeAny_builtin entry_eq_loop (by
        rw [Around.under_plainId plain_eq_loop _]
        exact hrec)⟩
    | false =>
      rw [hbi, Bool.false_and] at ha
      have hR := fin (i + 1) s2 h2
      rw [← he, ha] at hR
      obtain ⟨it, it2, m, m2, hl2, hb2, hz1, hz2⟩ := tw
      have g1 : it[((i : Nat) : Int).toNat]? = some (it[i]'(by omega)) := by simp
      have g2 : it2[((i : Nat) : Int).toNat]? = some (it2[i]'(by omega)) := by simp
      obtain ⟨hp2, gg2, d2, tk2, os2⟩ := s2
      wp_walk using wpAny_loadPart' hl2, wpAny_loadPart' hb2
      rw [g1, g2]
      wp_walk
      simpa using hR
theorem list_cmp3 (l b : Addr) (N : Nat) (bs : Nat → Bool) (ans : Nat → Bool) (I : Nat → Shared → Prop) (hT : Turns prog w A (fun e s' => R (.error e) s') l b N bs I) (a0 : ans N = true) (a1 : ∀ i, i < N → ans i = (bs i && ans (i + 1))) (fin : ∀ i s, I i s → R (.ok (.ret (.bool (!ans 0)))) s) {s : Shared} (h : I 0 s) :
    wpAny (model prog w) A.in1 (Builtin.«list.__ne__» ⟨[.ref l, .ref b], []⟩) (GQ.FinOf prog w A R) (fun e s' => R (.error e) s') s := by
  obtain ⟨⟨items, items2, n, n2, hl1, hb1, hs1, hs2⟩, _⟩ := hT _ _ h
  have hrec := cmp_loop3 (A := A) (R := R) l b N bs ans I hT a0 a1 fin _ 0 rfl (Nat.zero_le _) rfl s h
  obtain ⟨hp, g, d, tk, os⟩ := s
  have f3 := AutoSeq1.sub_list_list
  have hne : ¬ (items.size != items2.size) = true := by simp [hs1, hs2]
  wp_walk using wpAny_loadPart' hl1, wpAny_loadPart' hb1
  exact ⟨plainId_quiet plain_eq_loop _, codeAny_builtin entry_eq_loop (by
    rw [Around.under_plainId plain_eq_loop _]
    exact hrec)⟩
theorem rc_cmp3 {E : Value → Shared → Prop} {l b : Addr} {N : Nat} {bs : Nat → Bool} {ans : Nat → Bool} {Q : Value → Shared → Prop} (hu : A.units < cLine) (I : Nat → Shared → Prop) (hT : Turns prog w A E l b N bs I) (a0 : ans N = true) (a1 : ∀ i, i < N → ans i = (bs i && ans (i + 1))) (fin : ∀ i s, I i s → Q (.bool (!ans 0)) s) {s : Shared} (h : I 0 s) : wpAny (model prog w) A (richCompare .NotEq (.ref l) (.ref b)) Q E s := by
  obtain ⟨⟨items, items2, n, n2, hl1, hb1, _, _⟩, _⟩ := hT _ _ h
  refine wpAny_richCompare_same_room (op := .NotEq) ⟨_, hl1, rfl⟩ ⟨_, hb1, rfl⟩ F.slot_list_ne (GQ.call_here F.slot_list_ne ⟨_, hl1, rfl⟩ F.entry_list_ne (F.args_list_ne_2 _ _) ?_) hu
  exact list_cmp3 (R := wants (fun v s' => v ≠ .notImplemented ∧ Q v s') E) l b N bs ans I hT a0 a1 (fun i s' q => ⟨(fun x => nomatch x), fin i s' q⟩) h
/-- lists of other lengths -/
theorem rc_len3 {E : Value → Shared → Prop} {l b : Addr} {Q : Value → Shared → Prop} {items items2 : Array Value} {n n2 : Nat} (hu : A.units < cLine) {s : Shared} (hl1 : s.heap.get? l = some { cls := .type "list", data := .seq items n }) (hb1 : s.heap.get? b = some { cls := .type "list", data := .seq items2 n2 }) (hne : items.size ≠ items2.size) (q : Q (.bool true) s) : wpAny (model prog w) A (richCompare .NotEq (.ref l) (.ref b)) Q E s := by
  refine wpAny_richCompare_same_room (op := .NotEq) ⟨_, hl1, rfl⟩ ⟨_, hb1, rfl⟩ F.slot_list_ne (GQ.call_here F.slot_list_ne ⟨_, hl1, rfl⟩ F.entry_list_ne (F.args_list_ne_2 _ _) ?_) hu
  obtain ⟨hp, g, d, tk, os⟩ := s
  have f3 := AutoSeq1.sub_list_list
  have hne : (items.size != items2.size) = true := by simpa using hne
  wp_walk using wpAny_loadPart' hl1, wpAny_loadPart' hb1
  exact ⟨(fun x => nomatch x), q⟩
end
end Dn
end
section
set_option Elab.async false
set_option linter.all false
set_option maxRecDepth 100000
set_option maxHeartbeats 2000000
/-! DEq2: == and != of lists over data and instances. -/
namespace Dn
open PySem PySem.Spec L2
/-- == inside a list says b of d and e; objects are made, nothing else -/
def EqD (X : Cx) (k : Nat) (d e : D) (b : Bool) : Prop := ∀ (A : Around) (pins : List (Addr × Obj)) (σ : L2.St) (H Hs : Hp) (s : Shared) (x y : V) (u v : Value) (E : Value → Shared → Prop), Room k A → A.frames = X.A.frames → Inv X pins σ H s → Ex Hs H → Den X.K Hs x d → Den X.K Hs y e → RelV x u → RelV y v →
  wpAny (model X.prog X.w) A (eqBool u v) (fun r s' => r = b ∧ ∃ H', Inv X pins σ H' s' ∧ Ex H H') E s
theorem gr_of {H H' Hs : Hp} (e : Ex Hs H) (x : Ex H H') : Gr H H' Hs Hs := ⟨x, e.trans x, Ex.refl _, fun _ _ _ n => n⟩
section
variable {X : Cx} {k j : Nat} {C f : Addr} {fd : FuncData} {ps : List Str} {S : List D → Res → Prop} {fs gs : List (Str × D)}
theorem EqD.mono {d e : D} {b : Bool} (h : EqD X k d e b) (l : k ≤ j) : EqD X j d e b := fun A pins σ H Hs s x y u v E hr => h A pins σ H Hs s x y u v E (hr.mono l)
theorem eqd_obj {b : Bool} (at_ : PySem.W.findIn X.K (.ref C) "__eq__" = some (some (.ref f))) (fn : PySem.W.isFn X.K (.ref f) = true) (nf : PySem.W.notFirst X.K C (.ref C) = true) (F : FnOk X.prog X.w X.K X.mg X.base CX0 k f fd ps (spD X.K S)) (hb : Binds X.K fd ps []) (hS : S [.obj C fs, .obj C gs] (.val (.bl b)))
    (same : ∀ (Hs : Hp) (z : V), Den X.K Hs z (.obj C fs) → Den X.K Hs z (.obj C gs) → b = true) : EqD X k (.obj C fs) (.obj C gs) b := fun A pins σ H Hs s x y u v E hr hf I e d1 d2 r1 r2 => by
  obtain ⟨a, ox, od, rfl, rfl, J⟩ := inst_of I e d1 r1
  obtain ⟨a', ox', od', rfl, rfl, J'⟩ := inst_of I e d2 r2
  by_cases ha : a = a'
  · subst ha
    rw [same Hs _ d1 d2]
    exact SeqAt.EqAt.same (A := A) (s := s) (.ref a) X.prog X.w E _ ⟨rfl, H, I, Ex.refl _⟩
  · obtain ⟨m, Fr⟩ := I.fr
    refine GQ.eqBool_refG ha (PySem.W.cmp_K (op := .Eq) (tb := .ref C) hr.units0 Fr I.ok.mod.kin J J'.type nf at_ fn (thn (runAt (E := E) (Q := fun w H' => w = .bl b ∧ Ex H H') F hr hb I (env0At I hf) (.cons r1 (.cons r2 .nil)) e (.cons d1 (.cons d2 .nil)) hS fun w Hs' H' g z => ?_) fun u' s' z => ?_))
    · cases z
      exact ⟨rfl, g.ex⟩
    · obtain ⟨v', H', I', rv, rfl, g⟩ := z
      cases rv
      exact ⟨b, rfl, rfl, H', I', g⟩
/-- item by item -/
inductive EqDs (X : Cx) (k : Nat) : List D → List D → List Bool → Prop
  | nil : EqDs X k [] [] []
  | cons {d e : D} {b : Bool} {ds es : List D} {bs : List Bool} (h : EqD X k d e b) (r : EqDs X k ds es bs) : EqDs X k (d :: ds) (e :: es) (b :: bs)
theorem EqDs.len : ∀ {ds es : List D} {bs : List Bool}, EqDs X k ds es bs → ds.length = bs.length ∧ es.length = bs.length
  | _, _, _, .nil => ⟨rfl, rfl⟩
  | _, _, _, .cons _ r => ⟨congrArg Nat.succ r.len.1, congrArg Nat.succ r.len.2⟩
theorem EqDs.get : ∀ {ds es : List D} {bs : List Bool} {i : Nat} {d e : D}, EqDs X k ds es bs → ds[i]? = some d → es[i]? = some e → ∃ b, bs[i]? = some b ∧ EqD X k d e b
  | _, _, _, _, _, _, .nil, h, _ => by simp at h
  | _, _, _, 0, _, _, .cons h _, h1, h2 => by
    simp at h1 h2
    subst h1 h2
    exact ⟨_, rfl, h⟩
  | _, _, _, i + 1, d, e, .cons _ r, h1, h2 => by
    obtain ⟨b, q1, q2⟩ := EqDs.get (i := i) (d := d) (e := e) r (by simpa using h1) (by simpa using h2)
    exact ⟨b, by simpa using q1, q2⟩
theorem turns_of {ds es : List D} {bs : List Bool} {A : Around} {E : Value → Shared → Prop} {pins : List (Addr × Obj)} {σ : L2.St} {H Hs : Hp} {a b : Addr} {xs ys : List V} (h : EqDs X k ds es bs) (hr : Room (k + 1) A) (hf : A.frames = X.A.frames) (e : Ex Hs H) (ha : Hs a = some (.lst xs)) (hb : Hs b = some (.lst ys)) (da : Dens X.K Hs xs ds) (db : Dens X.K Hs ys es) :
    Turns X.prog X.w A E a b bs.length (fun i => bs.getD i true) (fun _ s' => ∃ H', Inv X pins σ H' s' ∧ Ex H H') := by
  obtain ⟨l1, l2⟩ := h.len
  have two : ∀ {s' : Shared} {H' : Hp}, Inv X pins σ H' s' → Ex H H' → ∃ (its its2 : List Value) (n n2 : Nat), Vals xs its ∧ Vals ys its2 ∧ s'.heap.get? a = some { cls := .type "list", data := .seq its.toArray n } ∧ s'.heap.get? b = some { cls := .type "list", data := .seq its2.toArray n2 } := fun {s' H'} I' ex => by
    obtain ⟨_, its, n, rv, za⟩ : _ ≤ sizeLine ∧ ∃ (its : List Value) (m : Nat), Vals xs its ∧ s'.heap.get? a = some { cls := .type "list", data := .seq its.toArray m } := I'.hok _ _ (ex _ _ (e _ _ ha))
    obtain ⟨_, its2, n2, rv2, zb⟩ : _ ≤ sizeLine ∧ ∃ (its : List Value) (m : Nat), Vals ys its ∧ s'.heap.get? b = some { cls := .type "list", data := .seq its.toArray m } := I'.hok _ _ (ex _ _ (e _ _ hb))
    exact ⟨its, its2, n, n2, rv, rv2, za, zb⟩
  have tw : ∀ {s' : Shared} {H' : Hp}, Inv X pins σ H' s' → Ex H H' → Two a b bs.length s' := fun {s' H'} I' ex => by
    obtain ⟨its, its2, n, n2, rv, rv2, za, zb⟩ := two I' ex
    exact ⟨its.toArray, its2.toArray, n, n2, za, zb, by rw [List.size_toArray, ← rv.length, da.length, l1], by rw [List.size_toArray, ← rv2.length, db.length, l2]⟩
  rintro i s' ⟨H', I', ex⟩
  refine ⟨tw I' ex, fun items items2 n n2 za zb h1 h2 => ?_⟩
  obtain ⟨its, its2, m, m2, rv, rv2, za', zb'⟩ := two I' ex
  rw [za] at za'
  cases za'
  rw [zb] at zb'
  cases zb'
  have i1 : i < ds.length := by rw [← da.length, rv.length]; simpa using h1
  have i2 : i < es.length := by rw [← db.length, rv2.length]; simpa using h2
  obtain ⟨x, hx, dx⟩ := da.get (List.getElem?_eq_getElem i1)
  obtain ⟨y, hy, dy⟩ := db.get (List.getElem?_eq_getElem i2)
  obtain ⟨bb, hbb, hq⟩ := h.get (List.getElem?_eq_getElem i1) (List.getElem?_eq_getElem i2)
  obtain ⟨u, hu, ru⟩ := rv.get hx
  obtain ⟨v, hv, rw2⟩ := rv2.get hy
  have eu : its.toArray[i] = u := by
    have q : its[i]? = some its.toArray[i] := by
      have : i < its.length := by simpa using h1
      rw [List.getElem?_eq_getElem this]
      simp
    rw [hu] at q
    exact (Option.some.inj q).symm
  have ev : its2.toArray[i] = v := by
    have q : its2[i]? = some its2.toArray[i] := by
      have : i < its2.length := by simpa using h2
      rw [List.getElem?_eq_getElem this]
      simp
    rw [hv] at q
    exact (Option.some.inj q).symm
  rw [eu, ev]
  refine wpAny_mono (hq A.in1 pins σ H' Hs s' x y u v E hr.in1 hf I' (e.trans ex) dx dy ru rw2) (fun r s2 z => ?_) fun _ _ z => z
  obtain ⟨rfl, H2, I2, ex2⟩ := z
  exact ⟨by show r = bs.getD i true; rw [List.getD_eq_getElem?_getD, hbb]; rfl, ⟨H2, I2, ex.trans ex2⟩, tw I2 (ex.trans ex2)⟩
theorem all_from (bs : List Bool) : ((bs.drop bs.length).all id = true) ∧ ∀ i, i < bs.length → (bs.drop i).all id = (bs.getD i true && (bs.drop (i + 1)).all id) := by
  refine ⟨by rw [List.drop_length]; rfl, fun i hi => ?_⟩
  rw [List.drop_eq_getElem_cons hi, List.all_cons, List.getD_eq_getElem?_getD, List.getElem?_eq_getElem hi]
  rfl
/-- lists, item by item -/
theorem eqd_lst {ds es : List D} {bs : List Bool} (h : EqDs X k ds es bs) (same : ∀ (Hs : Hp) (z : V), Den X.K Hs z (.lst ds) → Den X.K Hs z (.lst es) → bs.all id = true) : EqD X (k + 1) (.lst ds) (.lst es) (bs.all id) := fun A pins σ H Hs s x y u v E hr hf I e d1 d2 r1 r2 => by
  have d1' := d1
  have d2' := d2
  cases d1 with
  | @lst a xs _ ha da =>
    cases d2 with
    | @lst a' ys _ ha' db =>
      cases r1
      cases r2
      by_cases hq : a = a'
      · subst hq
        rw [same Hs _ d1' d2']
        exact SeqAt.EqAt.same (A := A) (s := s) (.ref a) X.prog X.w E _ ⟨rfl, H, I, Ex.refl _⟩
      · obtain ⟨a0, a1⟩ := all_from bs
        refine GQ.eqBool_refG hq (rc_cmp2 (N := bs.length) (bs := fun i => bs.getD i true) (ans := fun i => (bs.drop i).all id) hr.units0 (fun _ s' => ∃ H', Inv X pins σ H' s' ∧ Ex H H') (turns_of h hr hf e ha ha' da db) a0 a1 (fun i s' z => ⟨_, rfl, rfl, z⟩) ⟨H, I, Ex.refl _⟩)
/-- xs == ys, xs != ys of lists -/
theorem bd_eqL {ds es : List D} {bs : List Bool} (h : EqDs X k ds es bs) (hr : Room j X.A) (hk : k + 1 ≤ j := by decide) : BinD X (compareOp .Eq) (.lst ds) (.lst es) (.val (.bl (bs.all id))) := by
  intro pins s σ H x y v u Q I r1 r2 ⟨Hs, e, d1, d2, kq⟩
  cases d1 with
  | @lst a xs _ ha da =>
    cases d2 with
    | @lst a' ys _ ha' db =>
      cases r1
      cases r2
      obtain ⟨a0, a1⟩ := all_from bs
      have room : Room (k + 1) X.A := hr.mono hk
      show wpAny _ _ (richCompare .Eq (.ref a) (.ref a')) _ _ _
      refine rc_cmp2 (N := bs.length) (bs := fun i => bs.getD i true) (ans := fun i => (bs.drop i).all id) room.units0 (fun _ s' => ∃ H', Inv X pins σ H' s' ∧ Ex H H') (turns_of h room rfl e ha ha' da db) a0 a1 (fun i s' z => ?_) ⟨H, I, Ex.refl _⟩
      obtain ⟨H', I', ex⟩ := z
      exact ⟨.bl _, H', I', rfl, kq _ Hs H' (gr_of e ex) (.bl _)⟩
theorem bd_neL {ds es : List D} {bs : List Bool} (h : EqDs X k ds es bs) (hr : Room j X.A) (hk : k + 1 ≤ j := by decide) : BinD X (compareOp .NotEq) (.lst ds) (.lst es) (.val (.bl (!bs.all id))) := by
  intro pins s σ H x y v u Q I r1 r2 ⟨Hs, e, d1, d2, kq⟩
  cases d1 with
  | @lst a xs _ ha da =>
    cases d2 with
    | @lst a' ys _ ha' db =>
      cases r1
      cases r2
      obtain ⟨a0, a1⟩ := all_from bs
      have room : Room (k + 1) X.A := hr.mono hk
      show wpAny _ _ (richCompare .NotEq (.ref a) (.ref a')) _ _ _
      refine rc_cmp3 (N := bs.length) (bs := fun i => bs.getD i true) (ans := fun i => (bs.drop i).all id) room.units0 (fun _ s' => ∃ H', Inv X pins σ H' s' ∧ Ex H H') (turns_of h room rfl e ha ha' da db) a0 a1 (fun i s' z => ?_) ⟨H, I, Ex.refl _⟩
      obtain ⟨H', I', ex⟩ := z
      exact ⟨.bl _, H', I', rfl, kq _ Hs H' (gr_of e ex) (.bl _)⟩
theorem bd_eqLn {ds es : List D} (hne : ds.length ≠ es.length) (hr : Room j X.A) : BinD X (compareOp .Eq) (.lst ds) (.lst es) (.val (.bl false)) := by
  intro pins s σ H x y v u Q I r1 r2 ⟨Hs, e, d1, d2, kq⟩
  cases d1 with
  | @lst a xs _ ha da =>
    cases d2 with
    | @lst a' ys _ ha' db =>
      cases r1
      cases r2
      obtain ⟨_, its, n, rv, za⟩ : _ ≤ sizeLine ∧ ∃ (its : List Value) (m : Nat), Vals xs its ∧ s.heap.get? a = some { cls := .type "list", data := .seq its.toArray m } := I.hok _ _ (e _ _ ha)
      obtain ⟨_, its2, n2, rv2, zb⟩ : _ ≤ sizeLine ∧ ∃ (its : List Value) (m : Nat), Vals ys its ∧ s.heap.get? a' = some { cls := .type "list", data := .seq its.toArray m } := I.hok _ _ (e _ _ ha')
      show wpAny _ _ (richCompare .Eq (.ref a) (.ref a')) _ _ _
      exact rc_len2 hr.units0 za zb (by rw [List.size_toArray, List.size_toArray, ← rv.length, ← rv2.length, da.length, db.length]; exact hne) ⟨.bl _, H, I, rfl, kq _ Hs H (Gr.refl e) (.bl _)⟩
theorem bd_neLn {ds es : List D} (hne : ds.length ≠ es.length) (hr : Room j X.A) : BinD X (compareOp .NotEq) (.lst ds) (.lst es) (.val (.bl true)) := by
  intro pins s σ H x y v u Q I r1 r2 ⟨Hs, e, d1, d2, kq⟩
  cases d1 with
  | @lst a xs _ ha da =>
    cases d2 with
    | @lst a' ys _ ha' db =>
      cases r1
      cases r2
      obtain ⟨_, its, n, rv, za⟩ : _ ≤ sizeLine ∧ ∃ (its : List Value) (m : Nat), Vals xs its ∧ s.heap.get? a = some { cls := .type "list", data := .seq its.toArray m } := I.hok _ _ (e _ _ ha)
      obtain ⟨_, its2, n2, rv2, zb⟩ : _ ≤ sizeLine ∧ ∃ (its : List Value) (m : Nat), Vals ys its ∧ s.heap.get? a' = some { cls := .type "list", data := .seq its.toArray m } := I.hok _ _ (e _ _ ha')
      show wpAny _ _ (richCompare .NotEq (.ref a) (.ref a')) _ _ _
      exact rc_len3 hr.units0 za zb (by rw [List.size_toArray, List.size_toArray, ← rv.length, ← rv2.length, da.length, db.length]; exact hne) ⟨.bl _, H, I, rfl, kq _ Hs H (Gr.refl e) (.bl _)⟩
end
end Dn
end
section
set_option Elab.async false
set_option linter.all false
set_option maxRecDepth 100000
set_option maxHeartbeats 2000000
/-! DMap: comprehensions that map; several names at once. -/
namespace Dn
open PySem PySem.Spec L2
section
variable {X : Cx} {scope : Scope} {elt tg iter : Expr} {ρ ρ1 : Rho} {xs ys : List D} {ts : List Nat} {f : D → Rho → Rho → Prop} {pos : Pos} {bi : Bool} {k : Kn}
/-- [e for x in it]: the slots but the block's own stay; the i-th value is the i-th of ys -/
theorem pd_map (own : List (Str × Nat)) (hN : X.N.Nodup) (hi : PID X tg iter ρ xs ρ1) (hg : PGDb X scope tg ts f) (hl : ys.length = xs.length) (ht : ∀ (i : Nat) (d y : D), xs[i]? = some d → ys[i]? = some y → ∃ ρ2 ρ3, f d (wipeR ρ1 (own.map (·.2))) ρ2 ∧ PDb X scope elt ρ2 (.val y) ρ3 ∧ wipeR ρ3 (own.map (·.2)) = wipeR ρ1 (own.map (·.2)))
    (hz : xs.length ≤ 1000000) (ok : BlkOk X.N X.env.scope scope own := by exact blkOk_by rfl) (hts : ∀ t ∈ ts, t ∈ own.map (·.2) := by decide) (hv0 : ∀ v ∈ own.map (·.2), v ≠ 0 := by decide) (hc : X.calm = true := by rfl) (hs : ∀ x, foldedSetIterable iter X.env x = pure x := by intro _; rfl) :
    PD X (.ListComp elt [⟨tg, iter, [], 0⟩] scope pos) ρ (.own (.lst ys)) (wipeR ρ1 (own.map (·.2))) := by
  have h := pd_lc (pos := pos) (elt := elt) (ifs := []) own (fun _ => wipeR ρ1 (own.map (·.2))) (fun i => ys.take i) hN hi ok hg rfl (fun _ => wipeR_twice _ _) (by simp) (fun i => by rw [List.length_take]; omega) hz (fun i d hd => ?_) hts hv0 hc hs
  · rw [← hl, List.take_length] at h
    exact h
  · have hi : i < ys.length := by
      rw [hl]
      exact (List.getElem?_eq_some_iff.mp hd).1
    obtain ⟨ρ2, ρ3, h1, h2, h3⟩ := ht i d ys[i] hd (List.getElem?_eq_getElem hi)
    exact ⟨ρ2, true, ρ2, h1, ptsb_nil, fun _ => ⟨_, ρ3, h2, h3, take_step (List.getElem?_eq_getElem hi)⟩, fun z => nomatch z⟩
/-- name = [e for x in it] on one line -/
theorem ps1_map {y : Str} {py spos : Pos} (i : Nat) (own : List (Str × Nat)) (hN : X.N.Nodup) (hi : PID X tg iter ρ xs ρ1) (hg : PGDb X scope tg ts f) (hl : ys.length = xs.length) (ht : ∀ (i : Nat) (d y : D), xs[i]? = some d → ys[i]? = some y → ∃ ρ2 ρ3, f d (wipeR ρ1 (own.map (·.2))) ρ2 ∧ PDb X scope elt ρ2 (.val y) ρ3 ∧ wipeR ρ3 (own.map (·.2)) = wipeR ρ1 (own.map (·.2)))
    (hz : xs.length ≤ 1000000) (hsw : swapsWith (.ListComp elt [⟨tg, iter, [], 0⟩] scope pos) (some (.Name y py)) spos.line X.env = pure true := by rfl) (hk : k.nx ((wipeR ρ1 (own.map (·.2))).set i (.own (.lst ys))) := by rfl) (hy : X.N[i]? = some y := by rfl) (hyl : X.env.scope.names.lookup y = some .local := by rfl) (hio : i ≠ 0 ∨ bi = false := by first | exact Or.inl (by decide) | exact Or.inr rfl)
    (ok : BlkOk X.N X.env.scope scope own := by exact blkOk_by rfl) (hts : ∀ t ∈ ts, t ∈ own.map (·.2) := by decide) (hv0 : ∀ v ∈ own.map (·.2), v ≠ 0 := by decide) (hc : X.calm = true := by rfl) (hs : ∀ x, foldedSetIterable iter X.env x = pure x := by intro _; rfl) :
    PS1 X bi (.Assign [.Name y py] (.ListComp elt [⟨tg, iter, [], 0⟩] scope pos) spos) ρ k := by
  refine ps1_lc i own (fun _ => wipeR ρ1 (own.map (·.2))) (fun i => ys.take i) hN hi ok hg rfl (fun _ => wipeR_twice _ _) (by simp) (fun i => by rw [List.length_take]; omega) hz (fun i d hd => ?_) hsw ?_ hy hyl hio hts hv0 hc hs
  · have hi : i < ys.length := by
      rw [hl]
      exact (List.getElem?_eq_some_iff.mp hd).1
    obtain ⟨ρ2, ρ3, h1, h2, h3⟩ := ht i d ys[i] hd (List.getElem?_eq_getElem hi)
    exact ⟨ρ2, true, ρ2, h1, ptsb_nil, fun _ => ⟨_, ρ3, h2, h3, take_step (List.getElem?_eq_getElem hi)⟩, fun z => nomatch z⟩
  · rw [← hl, List.take_length]
    exact hk
end
theorem pd_cast {X : Cx} {e : Expr} {ρ ρ1 : Rho} {d d' : D} (h : PD X e ρ (.val d) ρ1) (q : d = d') : PD X e ρ (.val d') ρ1 := q ▸ h
theorem pd_blc {X : Cx} {e : Expr} {ρ ρ1 : Rho} {b b' : Bool} (h : PD X e ρ (.val (.bl b)) ρ1) (q : b = b') : PD X e ρ (.val (.bl b')) ρ1 := q ▸ h
/-- all([e for x in it]), e true at each -/
theorem pd_allT {X : Cx} {scope : Scope} {elt tg iter : Expr} {ρ ρ1 : Rho} {xs : List D} {ts : List Nat} {f : D → Rho → Rho → Prop} {pos p pos2 : Pos} (own : List (Str × Nat)) (hN : X.N.Nodup) (hm : X.mg "all" = none) (hi : PID X tg iter ρ xs ρ1) (hg : PGDb X scope tg ts f)
    (ht : ∀ (i : Nat) (d : D), xs[i]? = some d → ∃ ρ2 ρ3, f d (wipeR ρ1 (own.map (·.2))) ρ2 ∧ PDb X scope elt ρ2 (.val (.bl true)) ρ3 ∧ wipeR ρ3 (own.map (·.2)) = wipeR ρ1 (own.map (·.2)))
    (hz : xs.length ≤ 1000000) (ok : BlkOk X.N X.env.scope scope own := by exact blkOk_by rfl) (hts : ∀ t ∈ ts, t ∈ own.map (·.2) := by decide) (hv0 : ∀ v ∈ own.map (·.2), v ≠ 0 := by decide) (hc : X.calm = true := by rfl) (hs : ∀ x, foldedSetIterable iter X.env x = pure x := by intro _; rfl)
    (hgl : Gl X "all" := by rfl) (he : starEach [.ListComp elt [⟨tg, iter, [], 0⟩] scope pos] X.env = (false, eval (.ListComp elt [⟨tg, iter, [], 0⟩] scope pos) X.env) :: starEach [] X.env := by rfl)
    (hpl : (backTo pos2 (starEach [] X.env)).any (·.1) = false := by rfl) :
    PD X (.Call (.Name "all" p) [.ListComp elt [⟨tg, iter, [], 0⟩] scope pos] [] pos2) ρ (.val (.bl true)) (wipeR ρ1 (own.map (·.2))) := by
  have e : (xs.map fun _ => true).all id = true := by
    rw [List.all_eq_true]
    intro b hb
    obtain ⟨_, _, rfl⟩ := List.mem_map.mp hb
    rfl
  have c := cd_all (X := X) (bs := xs.map fun _ => true) hc
  rw [e] at c
  refine pd_callB c hm (pad_cons (pd_still (pd_map (ys := (xs.map fun _ => true).map D.bl) own hN hi hg (by rw [List.length_map, List.length_map]) (fun i d y h1 h2 => ?_) hz ok hts hv0 hc hs)) pad_nil he) (hg := hgl) (he := he) (hpl := hpl)
  rw [List.map_map, List.getElem?_map, h1] at h2
  cases h2
  exact ht i d h1
end Dn
end
section
set_option Elab.async false
set_option linter.all false
set_option maxRecDepth 100000
set_option maxHeartbeats 2000000
/-! DMore2: lcm, xs[::-1]. -/
namespace Dn
open PySem PySem.Spec L2
section
variable {X : Cx} {ρ ρ1 : Rho} {e : Expr} {pos p1 p2 p3 : Pos} {k : Nat}
theorem cd_lcm {i j : Int} (hi : i.natAbs < 2 ^ 64) (hj : j.natAbs < 2 ^ 64) : CallD X (.builtin "math.lcm") [.int i, .int j] (.val (.int ((Nat.lcm i.natAbs j.natAbs : Nat) : Int))) := by
  intro pins s σ H xs us Q I r1 ⟨Hs, e, dn, kq⟩
  obtain ⟨v, v', rfl, d1, d2⟩ := two dn
  cases d1
  cases d2
  obtain ⟨t, u, rfl⟩ := Vals.int2 r1
  exact PySem.W.mc_lcm hi hj fun _ => ⟨.int _, H, I.tok _, ⟨_, rfl⟩, kq _ Hs H (Gr.refl e) (.int _)⟩
theorem pd_revL {xs : List D} (h : PD X e ρ (.val (.lst xs)) ρ1) : PD X (.Subscript e (.Slice none none (some (.UnaryOp .USub (.Constant (.int 1) k p1) p2)) p3) pos) ρ (.own (.lst xs.reverse)) ρ1 :=
  pe_imp (pe_revL h) fun σ H Q ⟨io, Hf, Hs, E, kk⟩ => ⟨io, Hf, Hs, E, fun v Hs1 H1 E1 f1 q1 => by
    cases q1 with
    | lst z1 z2 =>
      refine ⟨_, _, rfl, SqL.of (E1.st _ _ z1), fun p hp => ?_⟩
      obtain ⟨E4, f4⟩ := E1.gr (Gr.newo (o := .lst _) E1.st hp)
      exact kk _ _ _ E4 (f1.trans f4) (E1.ret (r := .own (.lst _)) ⟨p, rfl, hp, E1.st.none hp, _, upd_same, z2.rev⟩)⟩
/-! ### and, or: the second operand may change what is owned -/
variable {a b : Expr} {ρ2 : Rho} {l : Bool} {rest : List Expr} {r : Res}
theorem pwd_andT (h1 : PTD X a ρ true ρ1) (h2 : PWD X (.BoolOp .And (b :: rest) pos) ρ1 l ρ2) : PWD X (.BoolOp .And (a :: b :: rest) pos) ρ l ρ2 := by
  refine pw_imp (pw_and h1 h2) fun σ H Q ⟨io, Hf, Hs, E, kk⟩ => ⟨io, Hf, Hs, E, fun Hs' H' E' f => ?_⟩
  refine iteT ?_
  exact ⟨io, Hf, Hs', E', fun Hs2 H2 E2 f2 => kk Hs2 H2 E2 (f.trans f2)⟩
theorem pwd_andF (h1 : PTD X a ρ false ρ1) : PWD X (.BoolOp .And (a :: b :: rest) pos) ρ false ρ1 := by
  refine pw_imp (pw_and (tB' := fun _ _ _ => False) h1 ⟨fun _ _ _ _ _ _ _ q => q.elim⟩) fun σ H Q ⟨io, Hf, Hs, E, kk⟩ => ⟨io, Hf, Hs, E, fun Hs' H' E' f => ?_⟩
  refine iteF ?_
  exact kk Hs' H' E' f
theorem pwd_orF (h1 : PTD X a ρ false ρ1) (h2 : PWD X (.BoolOp .Or (b :: rest) pos) ρ1 l ρ2) : PWD X (.BoolOp .Or (a :: b :: rest) pos) ρ l ρ2 := by
  refine pw_imp (pw_or h1 h2) fun σ H Q ⟨io, Hf, Hs, E, kk⟩ => ⟨io, Hf, Hs, E, fun Hs' H' E' f => ?_⟩
  refine iteF ?_
  exact ⟨io, Hf, Hs', E', fun Hs2 H2 E2 f2 => kk Hs2 H2 E2 (f.trans f2)⟩
theorem pwd_orT (h1 : PTD X a ρ true ρ1) : PWD X (.BoolOp .Or (a :: b :: rest) pos) ρ true ρ1 := by
  refine pw_imp (pw_or (tB' := fun _ _ _ => False) h1 ⟨fun _ _ _ _ _ _ _ q => q.elim⟩) fun σ H Q ⟨io, Hf, Hs, E, kk⟩ => ⟨io, Hf, Hs, E, fun Hs' H' E' f => ?_⟩
  refine iteT ?_
  exact kk Hs' H' E' f
theorem pd_andT (h1 : PD X a ρ (.val (.bl true)) ρ1) (h2 : PD X (.BoolOp .And (b :: rest) pos) ρ1 (.val (.bl l)) ρ2) : PD X (.BoolOp .And (a :: b :: rest) pos) ρ (.val (.bl l)) ρ2 := by
  refine pe_imp (pe_and h1 h2) fun σ H Q ⟨io, Hf, Hs, E, kk⟩ => ⟨io, Hf, Hs, E, fun v Hs' H' E' f q => ?_⟩
  cases q
  refine ⟨true, rfl, ?_⟩
  refine iteT ?_
  exact ⟨io, Hf, Hs', E', fun v2 Hs2 H2 E2 f2 => kk v2 Hs2 H2 E2 (f.trans f2)⟩
end
end Dn
end
section
set_option Elab.async false
set_option linter.all false
set_option maxRecDepth 100000
set_option maxHeartbeats 2000000
/-! DAuto: the rules once more, each with its questions in the order in which they are answered; the steps of a walk. -/
namespace Dn
open PySem PySem.Spec L2
/-- what is left to be shown beside the walk -/
def Side (p : Prop) : Prop := p
/-- a promise's own statement, taken apart from the left -/
def SpG (p : Prop) : Prop := p
/-- what is known of a place in the text -/
structure Cxt (X : Cx) (P : Program) (w : World) (K : PySem.W.Frag) (mg : Str → Option Value) (base : Heap) (N : List Str) (j : Nat) : Prop where
  prog : X.prog = P
  wd : X.w = w
  fr : X.K = K
  mod : X.mg = mg
  bs : X.base = base
  nm : X.N = N
  nd : N.Nodup
  calm : X.calm = true
  room : Room j X.A
theorem Cxt.blk {X : Cx} {P : Program} {w : World} {K : PySem.W.Frag} {mg : Str → Option Value} {base : Heap} {N : List Str} {j : Nat} (h : Cxt X P w K mg base N j) (scope : Scope) (s : Shared) (H : Hp) (C : Addr) (cl : List (Str × Addr)) (fp : List Addr) : Cxt (bk X scope s H C cl fp) P w K mg base N j :=
  ⟨h.prog, h.wd, h.fr, h.mod, h.bs, h.nm, h.nd, h.calm, h.room⟩
/-! ### slots by names -/
inductive Slot : List Str → Rho → Str → Nat → Sl → Prop
  | z {x : Str} {N : List Str} {s : Sl} {ρ : Rho} : Slot (x :: N) (s :: ρ) x 0 s
  | s {x y : Str} {N : List Str} {s t : Sl} {ρ : Rho} {i : Nat} : Slot N ρ x i s → Slot (y :: N) (t :: ρ) x (i + 1) s
theorem Slot.name : ∀ {N : List Str} {ρ : Rho} {x : Str} {i : Nat} {s : Sl}, Slot N ρ x i s → N[i]? = some x
  | _, _, _, _, _, .z => rfl
  | _, _, _, _, _, .s h => by simpa using h.name
theorem Slot.val : ∀ {N : List Str} {ρ : Rho} {x : Str} {i : Nat} {s : Sl}, Slot N ρ x i s → ρ[i]? = some s
  | _, _, _, _, _, .z => rfl
  | _, _, _, _, _, .s h => by simpa using h.val
inductive Put : List Str → Rho → Str → Nat → Sl → Rho → Prop
  | z {x : Str} {N : List Str} {s t : Sl} {ρ : Rho} : Put (x :: N) (s :: ρ) x 0 t (t :: ρ)
  | s {x y : Str} {N : List Str} {s t : Sl} {ρ ρ' : Rho} {i : Nat} : Put N ρ x i s ρ' → Put (y :: N) (t :: ρ) x (i + 1) s (t :: ρ')
theorem Put.name : ∀ {N : List Str} {ρ ρ' : Rho} {x : Str} {i : Nat} {s : Sl}, Put N ρ x i s ρ' → N[i]? = some x
  | _, _, _, _, _, _, .z => rfl
  | _, _, _, _, _, _, .s h => by simpa using h.name
theorem Put.eq : ∀ {N : List Str} {ρ ρ' : Rho} {x : Str} {i : Nat} {s : Sl}, Put N ρ x i s ρ' → ρ.set i s = ρ'
  | _, _, _, _, _, _, .z => rfl
  | _, _, _, _, _, _, .s h => by rw [List.set_cons_succ, h.eq]
inductive SlOf : Res → Sl → Prop
  | v {d : D} : SlOf (.val d) (.val d)
  | o {d : D} : SlOf (.own d) (.own d)
theorem SlOf.eq : ∀ {r : Res} {s : Sl}, SlOf r s → r.sl = s
  | _, _, .v => rfl
  | _, _, .o => rfl
inductive ToV : Res → D → Prop
  | v {d : D} : ToV (.val d) d
  | o {d : D} : ToV (.own d) d
/-! ### judgements in which it is known what is wanted -/
def PDV (X : Cx) (e : Expr) (ρ : Rho) (d : D) (ρ' : Rho) : Prop := PD X e ρ (.val d) ρ'
def PAV (X : Cx) (es : List Expr) (ρ : Rho) (ds : List D) (ρ' : Rho) : Prop := PAD X es ρ ds ρ'
def PTF (X : Cx) (e : Expr) (ρ ρ' : Rho) : Prop := PTD X e ρ false ρ'
def PTT (X : Cx) (e : Expr) (ρ ρ' : Rho) : Prop := PTD X e ρ true ρ'
def PWF (X : Cx) (e : Expr) (ρ ρ' : Rho) : Prop := PWD X e ρ false ρ'
def PWT (X : Cx) (e : Expr) (ρ ρ' : Rho) : Prop := PWD X e ρ true ρ'
section
variable {X : Cx} {P : Program} {w : World} {K : PySem.W.Frag} {mg : Str → Option Value} {base : Heap} {N : List Str} {j k i : Nat} {ρ ρ1 ρ2 ρ3 : Rho} {pos p pos2 apos : Pos} {a b c e o : Expr} {es rs : List Expr} {r : Res} {d x y : D} {as dds : List D} {dvs : List V} {nm nm0 m : Str} {S : List D → Res → Prop} {T : D → List D → Res → D → Prop} {gd : Bool} {C : Addr}
theorem a_toV (h : PD X e ρ r ρ1) (t : ToV r d) : PDV X e ρ d ρ1 := by
  cases t with
  | v => exact h
  | o => exact pd_still h
theorem a_ofV (h : PDV X e ρ d ρ1) : PD X e ρ (.val d) ρ1 := h
/-! names, constants -/
theorem a_name (hx : Cxt X P w K mg base N j) (h : Slot N ρ nm i (.val d)) (hv : Vis X.env.scope nm := by first | exact Or.inl rfl | exact Or.inr (Or.inl rfl) | exact Or.inr (Or.inr rfl))
    (hd : (nm == ("__debug__" : Str)) = false := by decide) (hcd : (nm == ("__classdict__" : Str)) = false := by decide) : PDV X (.Name nm pos) ρ d ρ := pd_var i h.val (hx.nm ▸ h.name) hv hd hcd
theorem a_move (hx : Cxt X P w K mg base N j) (h : Slot N ρ nm i (.own d)) (hp : Put N ρ nm i .non ρ1) (hv : Vis X.env.scope nm := by first | exact Or.inl rfl | exact Or.inr (Or.inl rfl) | exact Or.inr (Or.inr rfl))
    (hd : (nm == ("__debug__" : Str)) = false := by decide) (hcd : (nm == ("__classdict__" : Str)) = false := by decide) : PD X (.Name nm pos) ρ (.own d) ρ1 := by
  have e : ρ.set i .non = ρ1 := by
    have h1 := h.name
    have h2 := hp.name
    clear hv hd hcd hx
    exact hp.eq
  exact e ▸ pd_move i h.val (hx.nm ▸ h.name) hv hd hcd
/-- an owned slot is read as a value from now on -/
theorem a_stillN (hx : Cxt X P w K mg base N j) (h : Slot N ρ nm i (.own d)) (hp : Put N ρ nm i (.val d) ρ1) (hv : Vis X.env.scope nm := by first | exact Or.inl rfl | exact Or.inr (Or.inl rfl) | exact Or.inr (Or.inr rfl))
    (hd : (nm == ("__debug__" : Str)) = false := by decide) (hcd : (nm == ("__classdict__" : Str)) = false := by decide) : PDV X (.Name nm pos) ρ d ρ1 := by
  have hl : i < ρ.length := (List.getElem?_eq_some_iff.mp h.val).1
  refine hp.eq ▸ pe_imp (pe_var (hx.nm ▸ h.name) hv hd hcd) fun σ H Q ⟨io, Hf, Hs, E, kk⟩ => ?_
  obtain ⟨Hs', f, E'⟩ := E.still h.val
  obtain ⟨v, h1, h2⟩ := E'.val i d (List.getElem?_set_self hl)
  exact ⟨v, h1, kk v Hs' H E' f h2⟩
theorem a_glob {u : Addr} (hx : Cxt X P w K mg base N j) (hm : mg nm = some (.ref u)) (hg : Gl X nm := by rfl) (hd : (nm == ("__debug__" : Str)) = false := by decide) : PDV X (.Name nm pos) ρ (.adr u) ρ := pd_glob (hx.mod ▸ hm) hg hd
theorem a_globI {z : Int} {t : Tok} (hx : Cxt X P w K mg base N j) (hm : mg nm = some (.int z t)) (hg : Gl X nm := by rfl) (hd : (nm == ("__debug__" : Str)) = false := by decide) : PDV X (.Name nm pos) ρ (.int z) ρ := pd_globI (hx.mod ▸ hm) hg hd
theorem a_tyInt (hx : Cxt X P w K mg base N j) (hm : mg "int" = none) (hg : Gl X "int" := by rfl) : PDV X (.Name "int" pos) ρ (.ty "int") ρ := pd_ty (hx.mod ▸ hm) (hg := hg)
theorem a_tyBool (hx : Cxt X P w K mg base N j) (hm : mg "bool" = none) (hg : Gl X "bool" := by rfl) : PDV X (.Name "bool" pos) ρ (.ty "bool") ρ := pd_ty (hx.mod ▸ hm) (hg := hg)
theorem a_tyStr (hx : Cxt X P w K mg base N j) (hm : mg "str" = none) (hg : Gl X "str" := by rfl) : PDV X (.Name "str" pos) ρ (.ty "str") ρ := pd_ty (hx.mod ▸ hm) (hg := hg)
theorem a_tyList (hx : Cxt X P w K mg base N j) (hm : mg "list" = none) (hg : Gl X "list" := by rfl) : PDV X (.Name "list" pos) ρ (.ty "list") ρ := pd_ty (hx.mod ▸ hm) (hg := hg)
theorem a_tyTuple (hx : Cxt X P w K mg base N j) (hm : mg "tuple" = none) (hg : Gl X "tuple" := by rfl) : PDV X (.Name "tuple" pos) ρ (.ty "tuple") ρ := pd_ty (hx.mod ▸ hm) (hg := hg)
theorem a_tyDict (hx : Cxt X P w K mg base N j) (hm : mg "dict" = none) (hg : Gl X "dict" := by rfl) : PDV X (.Name "dict" pos) ρ (.ty "dict") ρ := pd_ty (hx.mod ▸ hm) (hg := hg)
theorem a_int {z : Int} {n : Nat} : PDV X (.Constant (.int z) n pos) ρ (.int z) ρ := pd_int
theorem a_bl {z : Bool} {n : Nat} : PDV X (.Constant (.bool z) n pos) ρ (.bl z) ρ := pd_bl
theorem a_non {n : Nat} : PDV X (.Constant .none n pos) ρ .non ρ := pd_non
theorem a_str {z : Str} {n : Nat} : PDV X (.Constant (.str z) n pos) ρ (.str z) ρ := pd_str
/-! operators -/
theorem a_bin {op : Operator} (ha : PDV X a ρ x ρ1) (hb : PDV X b ρ1 y ρ2) (ho : BinD X (binaryOp op) x y r) : PD X (.BinOp a op b pos) ρ r ρ2 := pd_bin ha hb ho
theorem a_cmp {op : CmpOp} (ha : PDV X a ρ x ρ1) (hb : PDV X b ρ1 y ρ2) (ho : BinD X (compareOp op) x y r) (hm : behindInMarks op b = false := by rfl) : PD X (.Compare a [op] [b] pos) ρ r ρ2 := pd_cmp ha hb ho hm
theorem a_un {op : UnaryOp} (ha : PDV X a ρ x ρ1) (ho : UnD X (unaryOp op) x r) : PD X (.UnaryOp op a pos) ρ r ρ1 := pd_un ha ho
theorem a_notV {q : Bool} (h : PDV X a ρ (.bl q) ρ1) : PD X (.UnaryOp .Not a pos) ρ (.val (.bl (!q))) ρ1 := pd_not h
theorem a_one {op : BoolOp} (h : PD X a ρ r ρ1) : PD X (.BoolOp op [a] pos) ρ r ρ1 := pd_one h
theorem a_andT {q l : Bool} (h1 : PDV X a ρ (.bl q) ρ1) (hq : Side (q = true)) (h2 : PD X (.BoolOp .And (b :: rs) pos) ρ1 (.val (.bl l)) ρ2) : PD X (.BoolOp .And (a :: b :: rs) pos) ρ (.val (.bl l)) ρ2 := by
  have hq : q = true := hq
  subst hq
  exact pd_andT h1 h2
theorem a_andF {q : Bool} (h1 : PDV X a ρ (.bl q) ρ1) (hq : Side (q = false)) : PD X (.BoolOp .And (a :: b :: rs) pos) ρ (.val (.bl false)) ρ1 := by
  have hq : q = false := hq
  subst hq
  refine pe_imp (pe_and (tb := fun _ _ _ => False) h1 ⟨fun _ _ _ _ _ _ q => q.elim⟩) fun σ H Q ⟨io, Hf, Hs, E, kk⟩ => ⟨io, Hf, Hs, E, fun v Hs' H' E' f q => ?_⟩
  cases q
  refine ⟨false, rfl, ?_⟩
  refine iteF ?_
  exact kk _ Hs' H' E' f (.bl false)
theorem a_orF {q l : Bool} (h1 : PDV X a ρ (.bl q) ρ1) (hq : Side (q = false)) (h2 : PD X (.BoolOp .Or (b :: rs) pos) ρ1 (.val (.bl l)) ρ2) : PD X (.BoolOp .Or (a :: b :: rs) pos) ρ (.val (.bl l)) ρ2 := by
  have hq : q = false := hq
  subst hq
  refine pe_imp (pe_or h1 h2) fun σ H Q ⟨io, Hf, Hs, E, kk⟩ => ⟨io, Hf, Hs, E, fun v Hs' H' E' f q => ?_⟩
  cases q
  refine ⟨false, rfl, ?_⟩
  refine iteF ?_
  exact ⟨io, Hf, Hs', E', fun v2 Hs2 H2 E2 f2 => kk v2 Hs2 H2 E2 (f.trans f2)⟩
theorem a_orT {q : Bool} (h1 : PDV X a ρ (.bl q) ρ1) (hq : Side (q = true)) : PD X (.BoolOp .Or (a :: b :: rs) pos) ρ (.val (.bl true)) ρ1 := by
  have hq : q = true := hq
  subst hq
  refine pe_imp (pe_or (tb := fun _ _ _ => False) h1 ⟨fun _ _ _ _ _ _ q => q.elim⟩) fun σ H Q ⟨io, Hf, Hs, E, kk⟩ => ⟨io, Hf, Hs, E, fun v Hs' H' E' f q => ?_⟩
  cases q
  refine ⟨true, rfl, ?_⟩
  refine iteT ?_
  exact kk _ Hs' H' E' f (.bl true)
/-- one choice is left open: which way it goes -/
theorem a_andX {q l : Bool} (h1 : PDV X a ρ (.bl q) ρ1) (h2 : (Side (q = false) ∧ ρ1 = ρ2 ∧ l = false) ∨ (Side (q = true) ∧ PD X (.BoolOp .And (b :: rs) pos) ρ1 (.val (.bl l)) ρ2)) : PD X (.BoolOp .And (a :: b :: rs) pos) ρ (.val (.bl l)) ρ2 := by
  rcases h2 with ⟨q1, rfl, rfl⟩ | ⟨q1, h⟩
  · exact a_andF h1 q1
  · exact a_andT h1 q1 h
theorem a_orX {q l : Bool} (h1 : PDV X a ρ (.bl q) ρ1) (h2 : (Side (q = true) ∧ ρ1 = ρ2 ∧ l = true) ∨ (Side (q = false) ∧ PD X (.BoolOp .Or (b :: rs) pos) ρ1 (.val (.bl l)) ρ2)) : PD X (.BoolOp .Or (a :: b :: rs) pos) ρ (.val (.bl l)) ρ2 := by
  rcases h2 with ⟨q1, rfl, rfl⟩ | ⟨q1, h⟩
  · exact a_orT h1 q1
  · exact a_orF h1 q1 h
theorem a_ifX {q : Bool} (hc : PTD X c ρ q ρ1) (h : (Side (q = true) ∧ PD X a ρ1 r ρ2) ∨ (Side (q = false) ∧ PD X b ρ1 r ρ2)) : PD X (.IfExp c a b pos) ρ r ρ2 := by
  rcases h with ⟨q1, h⟩ | ⟨q1, h⟩
  · have q1 : q = true := q1
    subst q1
    exact pd_ifT hc h
  · have q1 : q = false := q1
    subst q1
    exact pd_ifF hc h
/-! tests -/
theorem a_tNot {q : Bool} (h : PTD X e ρ q ρ1) : PTD X (.UnaryOp .Not e pos) ρ (!q) ρ1 := ptd_not h
theorem a_tCmp {op : CmpOp} {q : Bool} (ha : PDV X a ρ x ρ1) (hb : PDV X b ρ1 y ρ2) (ho : BinD X (compareOp op) x y (.val (.bl q))) (hm : behindInMarks op b = false := by rfl) : PTD X (.Compare a [op] [b] pos) ρ q ρ2 := ptd_cmp ha hb ho hm
theorem a_tBl {q : Bool} (h : PDV X e ρ (.bl q) ρ1) (he : ∀ whole, isTrue e X.env whole = (do let v ← whole; standAt e.pos; holding [v] (truthy v)) := by intro _; rfl) : PTD X e ρ q ρ1 := ptd_bl h he
theorem a_fNot (h : PTT X e ρ ρ1) : PTF X (.UnaryOp .Not e pos) ρ ρ1 := ptd_not h
theorem a_ttNot (h : PTF X e ρ ρ1) : PTT X (.UnaryOp .Not e pos) ρ ρ1 := ptd_not h
theorem a_fBase {q : Bool} (h : PTD X e ρ q ρ1) (hq : Side (q = false)) : PTF X e ρ ρ1 := by
  have hq : q = false := hq
  subst hq
  exact h
theorem a_tBase {q : Bool} (h : PTD X e ρ q ρ1) (hq : Side (q = true)) : PTT X e ρ ρ1 := by
  have hq : q = true := hq
  subst hq
  exact h
theorem a_fPW {op : BoolOp} (h : PWF X (.BoolOp op es pos) ρ ρ1) : PTF X (.BoolOp op es pos) ρ ρ1 := PWD.pt h
theorem a_tPW {op : BoolOp} (h : PWT X (.BoolOp op es pos) ρ ρ1) : PTT X (.BoolOp op es pos) ρ ρ1 := PWD.pt h
theorem a_wf1a (h : PTF X a ρ ρ1) : PWF X (.BoolOp .And [a] pos) ρ ρ1 := pwd_and1 h
theorem a_wf1o (h : PTF X a ρ ρ1) : PWF X (.BoolOp .Or [a] pos) ρ ρ1 := pwd_or1 h
theorem a_wt1a (h : PTT X a ρ ρ1) : PWT X (.BoolOp .And [a] pos) ρ ρ1 := pwd_and1 h
theorem a_wt1o (h : PTT X a ρ ρ1) : PWT X (.BoolOp .Or [a] pos) ρ ρ1 := pwd_or1 h
theorem a_wfOr (h : PTF X a ρ ρ1) (h2 : PWF X (.BoolOp .Or (b :: rs) pos) ρ1 ρ2) : PWF X (.BoolOp .Or (a :: b :: rs) pos) ρ ρ2 := pwd_orF h h2
theorem a_wtAnd (h : PTT X a ρ ρ1) (h2 : PWT X (.BoolOp .And (b :: rs) pos) ρ1 ρ2) : PWT X (.BoolOp .And (a :: b :: rs) pos) ρ ρ2 := pwd_andT h h2
theorem a_wfAnd {q : Bool} (h : PTD X a ρ q ρ1) (h2 : (Side (q = false) ∧ ρ1 = ρ2) ∨ (Side (q = true) ∧ PWF X (.BoolOp .And (b :: rs) pos) ρ1 ρ2)) : PWF X (.BoolOp .And (a :: b :: rs) pos) ρ ρ2 := by
  rcases h2 with ⟨q1, rfl⟩ | ⟨q1, h2⟩
  · have q1 : q = false := q1
    subst q1
    exact pwd_andF h
  · have q1 : q = true := q1
    subst q1
    exact pwd_andT h h2
theorem a_wtOr {q : Bool} (h : PTD X a ρ q ρ1) (h2 : (Side (q = true) ∧ ρ1 = ρ2) ∨ (Side (q = false) ∧ PWT X (.BoolOp .Or (b :: rs) pos) ρ1 ρ2)) : PWT X (.BoolOp .Or (a :: b :: rs) pos) ρ ρ2 := by
  rcases h2 with ⟨q1, rfl⟩ | ⟨q1, h2⟩
  · have q1 : q = true := q1
    subst q1
    exact pwd_orT h
  · have q1 : q = false := q1
    subst q1
    exact pwd_orF h h2
/-- a test of several, its truth as it comes -/
theorem a_tBoolV {op : BoolOp} {q : Bool} (h : PWD X (.BoolOp op es pos) ρ q ρ1) : PTD X (.BoolOp op es pos) ρ q ρ1 := PWD.pt h
theorem a_w1a {q : Bool} (h : PTD X a ρ q ρ1) : PWD X (.BoolOp .And [a] pos) ρ q ρ1 := pwd_and1 h
theorem a_w1o {q : Bool} (h : PTD X a ρ q ρ1) : PWD X (.BoolOp .Or [a] pos) ρ q ρ1 := pwd_or1 h
theorem a_wAnd {q l : Bool} (h : PTD X a ρ q ρ1) (h2 : (Side (q = false) ∧ ρ1 = ρ2 ∧ l = false) ∨ (Side (q = true) ∧ PWD X (.BoolOp .And (b :: rs) pos) ρ1 l ρ2)) : PWD X (.BoolOp .And (a :: b :: rs) pos) ρ l ρ2 := by
  rcases h2 with ⟨q1, rfl, rfl⟩ | ⟨q1, h2⟩
  · have q1 : q = false := q1
    subst q1
    exact pwd_andF h
  · have q1 : q = true := q1
    subst q1
    exact pwd_andT h h2
theorem a_wOr {q l : Bool} (h : PTD X a ρ q ρ1) (h2 : (Side (q = true) ∧ ρ1 = ρ2 ∧ l = true) ∨ (Side (q = false) ∧ PWD X (.BoolOp .Or (b :: rs) pos) ρ1 l ρ2)) : PWD X (.BoolOp .Or (a :: b :: rs) pos) ρ l ρ2 := by
  rcases h2 with ⟨q1, rfl, rfl⟩ | ⟨q1, h2⟩
  · have q1 : q = true := q1
    subst q1
    exact pwd_orT h
  · have q1 : q = false := q1
    subst q1
    exact pwd_orF h h2
/-! displays, arguments -/
theorem a_nil : PAV X [] ρ [] ρ := pad_nil
theorem a_cons (h1 : PDV X e ρ d ρ1) (h2 : PAV X es ρ1 as ρ2) (hs : starEach (e :: es) X.env = (false, eval e X.env) :: starEach es X.env := by rfl) : PAV X (e :: es) ρ (d :: as) ρ2 := pad_cons h1 h2 hs
theorem a_tup {n : Nat} (h : PAV X es ρ as ρ1) (hz : Side (as.length ≤ 1000)) : PD X (.Tuple es n pos) ρ (.val (.tup as)) ρ1 := pd_tup h hz
theorem a_lst (h : PAV X es ρ as ρ1) (hz : Side (as.length ≤ 1000)) : PD X (.List es pos) ρ (.own (.lst as)) ρ1 := pd_lst h hz
/-! items -/
/-- the datum at a place of a sequence -/
def IxD (q : D) (z : Int) (d : D) : Prop := ∃ xs, (q = .lst xs ∨ q = .lstK xs ∨ q = .tup xs ∨ q = .tupK xs) ∧ atI xs z = some d
theorem a_ix {q : D} {z : Int} (ha : PDV X a ρ q ρ1) (hb : PDV X b ρ1 (.int z) ρ2) (h : IxD q z d) (hs : PlainIx b := by exact fun _ _ => rfl) : PD X (.Subscript a b pos) ρ (.val d) ρ2 := by
  obtain ⟨xs, e, h⟩ := h
  rcases e with rfl | rfl | rfl | rfl
  · exact pd_ixL ha hb h hs
  · exact pd_ixLK ha hb h hs
  · exact pd_ixT ha hb h hs
  · exact pd_ixTK ha hb h hs
theorem a_ixO {q : List D} {z : Int} (hx : Cxt X P w K mg base N j) (h0 : Slot N ρ nm i (.own d)) (hb : PDV X b ρ (.int z) ρ1) (h1 : Slot N ρ1 nm i (.own (.lst q))) (h : IxD (.lst q) z x) (hs : PlainIx b := by exact fun _ _ => rfl)
    (hv : Vis X.env.scope nm := by first | exact Or.inl rfl | exact Or.inr (Or.inl rfl) | exact Or.inr (Or.inr rfl)) (hd : (nm == ("__debug__" : Str)) = false := by decide) (hcd : (nm == ("__classdict__" : Str)) = false := by decide) : PD X (.Subscript (.Name nm p) b pos) ρ (.val x) ρ1 := by
  obtain ⟨xs, e, h⟩ := h
  have e : q = xs := by rcases e with e | e | e | e <;> cases e; rfl
  subst e
  exact pd_ixO i hb h1.val h (hx.nm ▸ h0.name) hv hs hd hcd ⟨_, h0.val⟩
theorem ixN_nat' {n k : Nat} (h : k < n) : ixN n (k : Int) = some k := by
  unfold ixN
  first | (rw [if_pos (by omega)]; simp; omega) | (simp; omega) | simp [h]
theorem atI_nat' {xs : List D} {d : D} (n : Nat) (h : xs[n]? = some d) : atI xs (n : Int) = some d := by
  have hl := (List.getElem?_eq_some_iff.mp h).1
  unfold atI
  rw [ixN_nat' hl]
  exact h
theorem ixd_l {xs : List D} {z : Int} (h : Side (atI xs z = some d)) : IxD (.lst xs) z d := ⟨xs, .inl rfl, h⟩
theorem ixd_k {xs : List D} {z : Int} (h : Side (atI xs z = some d)) : IxD (.lstK xs) z d := ⟨xs, .inr (.inl rfl), h⟩
theorem ixd_t {xs : List D} {z : Int} (h : Side (atI xs z = some d)) : IxD (.tup xs) z d := ⟨xs, .inr (.inr (.inl rfl)), h⟩
theorem ixd_t0 : IxD (.tup (d :: as)) 0 d := ⟨_, .inr (.inr (.inl rfl)), atI_nat' 0 rfl⟩
theorem ixd_t1 {d0 : D} : IxD (.tup (d0 :: d :: as)) 1 d := ⟨_, .inr (.inr (.inl rfl)), atI_nat' 1 rfl⟩
theorem ixd_t2 {d0 d1 : D} : IxD (.tup (d0 :: d1 :: d :: as)) 2 d := ⟨_, .inr (.inr (.inl rfl)), atI_nat' 2 rfl⟩
theorem ixd_l0 : IxD (.lst (d :: as)) 0 d := ⟨_, .inl rfl, atI_nat' 0 rfl⟩
theorem ixd_l1 {d0 : D} : IxD (.lst (d0 :: d :: as)) 1 d := ⟨_, .inl rfl, atI_nat' 1 rfl⟩
theorem ixd_l2 {d0 d1 : D} : IxD (.lst (d0 :: d1 :: d :: as)) 2 d := ⟨_, .inl rfl, atI_nat' 2 rfl⟩
theorem a_slice {xs : List D} {lo hi : Option Expr} {l u : Option Int} (ha : PDV X a ρ (.lst xs) ρ1) (hl : POD X lo ρ1 l ρ2) (hu : POD X hi ρ2 u ρ3) : PD X (.Subscript a (.Slice lo hi none pos2) pos) ρ (.own (.lst (cutD xs l u))) ρ3 := pd_sliceL ha hl hu
theorem a_rev {xs : List D} {n : Nat} {p1 p2 p3 : Pos} (h : PDV X e ρ (.lst xs) ρ1) : PD X (.Subscript e (.Slice none none (some (.UnaryOp .USub (.Constant (.int 1) n p1) p2)) p3) pos) ρ (.own (.lst xs.reverse)) ρ1 := pd_revL h
theorem a_oNone : POD X none ρ none ρ := pod_none
theorem a_oSome {z : Int} (h : PDV X e ρ (.int z) ρ1) : POD X (some e) ρ (some z) ρ1 := pod_some h
/-! fields -/
theorem a_fld {f : Str} {gs : List (Str × D)} (hx : Cxt X P w K mg base N j) (he : PDV X e ρ (.obj C gs) ρ1) (c : Cls K C) (n : NoAttr K C f) (l : gs.lookup f = some d) (hb : attributeBase e f X.env (eval e X.env) = eval e X.env := by rfl) : PD X (.Attribute e f pos) ρ (.val d) ρ1 := pd_fld he (hx.fr ▸ c) (hx.fr ▸ n) l hb
/-! calls -/
theorem a_call (hx : Cxt X P w K mg base N j) (cl : Cal gd P w K mg base k nm (spD K S) []) (ha : PAV X (e :: es) ρ as ρ1) (hS : SpG (S as r)) (nog : gd = true → X.A.guards = some [] := by first | exact fun z => Bool.noConfusion z | assumption) (hk : k ≤ j := by decide) (hg : Gl X nm := by rfl)
    (hdb : (nm == ("__debug__" : Str)) = false := by decide) (he : starEach (e :: es) X.env = (false, eval e X.env) :: starEach es X.env := by rfl) (hpl : (backTo pos (starEach es X.env)).any (·.1) = false := by rfl) : PD X (.Call (.Name nm p) (e :: es) [] pos) ρ r ρ1 := by
  obtain ⟨h1, h2, h3, h4, h5, _, _, _, room⟩ := hx
  subst h1 h2 h3 h4 h5
  exact pd_call (as := as) (dds := []) cl room ha (by rw [List.append_nil]; exact hS) (fun _ => .nil) nog hk hg hdb he hpl
theorem a_call0 (hx : Cxt X P w K mg base N j) (cl : Cal gd P w K mg base k nm (spD K S) []) (hS : SpG (S [] r)) (nog : gd = true → X.A.guards = some [] := by first | exact fun z => Bool.noConfusion z | assumption) (hk : k ≤ j := by decide) (hg : Gl X nm := by rfl)
    (hdb : (nm == ("__debug__" : Str)) = false := by decide) : PD X (.Call (.Name nm p) [] [] pos) ρ r ρ := by
  obtain ⟨h1, h2, h3, h4, h5, _, _, _, room⟩ := hx
  subst h1 h2 h3 h4 h5
  exact pd_call0 cl room hS (fun _ => .nil) nog hk hg hdb
theorem a_callIO {c0 c1 c' : D} {p0 : Pos} (hx : Cxt X P w K mg base N j) (cl : Cal gd P w K mg base k nm (spIO K T) []) (h0 : Slot N ρ nm0 i (.own c0)) (ha : PAV X es ρ as ρ1) (h1 : Slot N ρ1 nm0 i (.own c1)) (hT : SpG (T c1 as r c')) (hp : Put N ρ1 nm0 i (.own c') ρ2) (nog : gd = true → X.A.guards = some [] := by first | exact fun z => Bool.noConfusion z | assumption) (hk : k ≤ j := by decide) (hg : Gl X nm := by rfl)
    (hv : Vis X.env.scope nm0 := by first | exact Or.inl rfl | exact Or.inr (Or.inl rfl) | exact Or.inr (Or.inr rfl)) (hd : (nm0 == ("__debug__" : Str)) = false := by decide) (hcd : (nm0 == ("__classdict__" : Str)) = false := by decide)
    (hdb : (nm == ("__debug__" : Str)) = false := by decide) (he : starEach (.Name nm0 p0 :: es) X.env = (false, eval (.Name nm0 p0) X.env) :: starEach es X.env := by rfl) (hpl : (backTo pos (starEach es X.env)).any (·.1) = false := by rfl) : PD X (.Call (.Name nm p) (.Name nm0 p0 :: es) [] pos) ρ r ρ2 := by
  obtain ⟨q1, q2, q3, q4, q5, q6, _, _, room⟩ := hx
  subst q1 q2 q3 q4 q5 q6
  exact hp.eq ▸ pd_callIO (as := as) (dds := []) i cl room h0.val ha h1.val (by rw [List.append_nil]; exact hT) (fun _ => .nil) nog hk hg h0.name hv hd hcd hdb he hpl
theorem a_callT {a0 : Expr} {c1 c' : D} (hx : Cxt X P w K mg base N j) (cl : Cal gd P w K mg base k nm (spIO K T) []) (ha : PD X a0 ρ (.own c1) ρ1) (hT : SpG (T c1 [] r c')) (nog : gd = true → X.A.guards = some [] := by first | exact fun z => Bool.noConfusion z | assumption) (hk : k ≤ j := by decide) (hg : Gl X nm := by rfl)
    (hdb : (nm == ("__debug__" : Str)) = false := by decide) (he : starEach [a0] X.env = (false, eval a0 X.env) :: starEach [] X.env := by rfl) (hpl : (backTo pos (starEach [] X.env)).any (·.1) = false := by rfl) : PD X (.Call (.Name nm p) [a0] [] pos) ρ r ρ1 := by
  obtain ⟨q1, q2, q3, q4, q5, q6, _, _, room⟩ := hx
  subst q1 q2 q3 q4 q5 q6
  exact pd_callT cl room ha hT (fun _ => .nil) nog hk hg hdb he hpl
theorem a_callK {kws : List Keyword} {ks : List Str} {ix : List Nat} (hx : Cxt X P w K mg base N j) (cl : CalK P w K mg base k nm (spD K S) ks ix) (ha : PKD X kws ρ as ρ1) (hS : SpG (S (pk ix as) r)) (hlen : Side (as.length = ks.length)) (hk : k ≤ j := by decide) (hg : Gl X nm := by rfl)
    (hall : (backToKw pos (keywordEach kws X.env)).all (·.1.isSome) = true := by rfl) (hks : (backToKw pos (keywordEach kws X.env)).filterMap (·.1) = ks := by rfl) (hdb : (nm == ("__debug__" : Str)) = false := by decide)
    (hpl : ((backTo pos (starEach [] X.env)).any (·.1) || (backToKw pos (keywordEach kws X.env)).any (·.1.isNone)) = false := by rfl) : PD X (.Call (.Name nm p) [] kws pos) ρ r ρ1 := by
  obtain ⟨q1, q2, q3, q4, q5, q6, _, _, room⟩ := hx
  subst q1 q2 q3 q4 q5 q6
  exact pd_callK cl room ha hS hlen hk hg hall hks (hdb := hdb) (hpl := hpl)
theorem a_knil : PKD X [] ρ [] ρ := pkd_nil
theorem a_kcons {kws : List Keyword} {kpos : Pos} {kn : Option Str} (h1 : PDV X e ρ d ρ1) (h2 : PKD X kws ρ1 as ρ2) : PKD X (⟨kn, e, kpos⟩ :: kws) ρ (d :: as) ρ2 := pkd_cons h1 h2
theorem a_make {fs : List (Str × D)} (hx : Cxt X P w K mg base N j) (cl : Mak P w K mg base k nm C (spIO K T) []) (ha : PAV X (e :: es) ρ as ρ1) (hT : SpG (T (.obj C []) as (.val .non) (.obj C fs))) (hk : k + 1 ≤ j := by decide) (hg : Gl X nm := by rfl)
    (hdb : (nm == ("__debug__" : Str)) = false := by decide) (he : starEach (e :: es) X.env = (false, eval e X.env) :: starEach es X.env := by rfl) (hpl : (backTo pos (starEach es X.env)).any (·.1) = false := by rfl) : PD X (.Call (.Name nm p) (e :: es) [] pos) ρ (.own (.obj C fs)) ρ1 := by
  obtain ⟨q1, q2, q3, q4, q5, q6, _, _, room⟩ := hx
  subst q1 q2 q3 q4 q5 q6
  exact pd_make (as := as) (dds := []) cl room ha (by rw [List.append_nil]; exact hT) (fun _ => .nil) hk hg hdb he hpl
theorem a_meth {fs : List (Str × D)} {pl : Sem Bool} (hx : Cxt X P w K mg base N j) (cl : Met P w K mg base k C m (spD K S) []) (ho : PDV X o ρ (.obj C fs) ρ1) (hn : fs.lookup m = none) (ha : PAV X (e :: es) ρ1 as ρ2) (hS : SpG (S (.obj C fs :: as) r)) (hk : k ≤ j := by decide) (hst : starEach (e :: es) X.env = (false, eval e X.env) :: starEach es X.env := by rfl) (hpl : (backTo pos (starEach es X.env)).any (·.1) = false := by rfl)
    (ht : eval (.Call (.Attribute o m apos) (e :: es) [] pos) X.env = (do
      let ov ← eval o X.env
      standAt apos.atName
      let (f, first) ← holding [ov] (getMethod ov m pl)
      callWith pos f first (backTo pos (starEach (e :: es) X.env)) (backToKw pos (keywordEach [] X.env))) := by rfl) : PD X (.Call (.Attribute o m apos) (e :: es) [] pos) ρ r ρ2 := by
  obtain ⟨q1, q2, q3, q4, q5, q6, _, _, room⟩ := hx
  subst q1 q2 q3 q4 q5 q6
  exact pd_meth (dds := []) (pl := pl) cl room ho hn ha (by rw [List.append_nil]; exact hS) (fun _ => .nil) hk hst hpl ht
theorem a_meth0 {fs : List (Str × D)} {pl : Sem Bool} (hx : Cxt X P w K mg base N j) (cl : Met P w K mg base k C m (spD K S) []) (ho : PDV X o ρ (.obj C fs) ρ1) (hn : fs.lookup m = none) (hS : SpG (S [.obj C fs] r)) (hk : k ≤ j := by decide)
    (ht : eval (.Call (.Attribute o m apos) [] [] pos) X.env = (do
      let ov ← eval o X.env
      standAt apos.atName
      let (f, first) ← holding [ov] (getMethod ov m pl)
      callWith pos f first (backTo pos (starEach [] X.env)) (backToKw pos (keywordEach [] X.env))) := by rfl) : PD X (.Call (.Attribute o m apos) [] [] pos) ρ r ρ1 := by
  obtain ⟨q1, q2, q3, q4, q5, q6, _, _, room⟩ := hx
  subst q1 q2 q3 q4 q5 q6
  exact pd_meth0 (dds := []) (pl := pl) cl room ho hn hS (fun _ => .nil) hk ht
/-! built-in functions -/
theorem a_len (hx : Cxt X P w K mg base N j) (hm : mg "len" = none) (ha : PAV X (e :: es) ρ as ρ1) (hc : CallD X (.builtin "len") as r) (hg : Gl X "len" := by rfl) (he : starEach (e :: es) X.env = (false, eval e X.env) :: starEach es X.env := by rfl) (hpl : (backTo pos (starEach es X.env)).any (·.1) = false := by rfl) : PD X (.Call (.Name "len" p) (e :: es) [] pos) ρ r ρ1 := pd_callB hc (hx.mod ▸ hm) ha (hg := hg) (he := he) (hpl := hpl)
theorem a_abs (hx : Cxt X P w K mg base N j) (hm : mg "abs" = none) (ha : PAV X (e :: es) ρ as ρ1) (hc : CallD X (.builtin "abs") as r) (hg : Gl X "abs" := by rfl) (he : starEach (e :: es) X.env = (false, eval e X.env) :: starEach es X.env := by rfl) (hpl : (backTo pos (starEach es X.env)).any (·.1) = false := by rfl) : PD X (.Call (.Name "abs" p) (e :: es) [] pos) ρ r ρ1 := pd_callB hc (hx.mod ▸ hm) ha (hg := hg) (he := he) (hpl := hpl)
theorem a_max (hx : Cxt X P w K mg base N j) (hm : mg "max" = none) (ha : PAV X (e :: es) ρ as ρ1) (hc : CallD X (.builtin "max") as r) (hg : Gl X "max" := by rfl) (he : starEach (e :: es) X.env = (false, eval e X.env) :: starEach es X.env := by rfl) (hpl : (backTo pos (starEach es X.env)).any (·.1) = false := by rfl) : PD X (.Call (.Name "max" p) (e :: es) [] pos) ρ r ρ1 := pd_callB hc (hx.mod ▸ hm) ha (hg := hg) (he := he) (hpl := hpl)
theorem a_min (hx : Cxt X P w K mg base N j) (hm : mg "min" = none) (ha : PAV X (e :: es) ρ as ρ1) (hc : CallD X (.builtin "min") as r) (hg : Gl X "min" := by rfl) (he : starEach (e :: es) X.env = (false, eval e X.env) :: starEach es X.env := by rfl) (hpl : (backTo pos (starEach es X.env)).any (·.1) = false := by rfl) : PD X (.Call (.Name "min" p) (e :: es) [] pos) ρ r ρ1 := pd_callB hc (hx.mod ▸ hm) ha (hg := hg) (he := he) (hpl := hpl)
theorem a_repr (hx : Cxt X P w K mg base N j) (hm : mg "repr" = none) (ha : PAV X (e :: es) ρ as ρ1) (hc : CallD X (.builtin "repr") as r) (hg : Gl X "repr" := by rfl) (he : starEach (e :: es) X.env = (false, eval e X.env) :: starEach es X.env := by rfl) (hpl : (backTo pos (starEach es X.env)).any (·.1) = false := by rfl) : PD X (.Call (.Name "repr" p) (e :: es) [] pos) ρ r ρ1 := pd_callB hc (hx.mod ▸ hm) ha (hg := hg) (he := he) (hpl := hpl)
theorem a_divmod (hx : Cxt X P w K mg base N j) (hm : mg "divmod" = none) (ha : PAV X (e :: es) ρ as ρ1) (hc : CallD X (.builtin "divmod") as r) (hg : Gl X "divmod" := by rfl) (he : starEach (e :: es) X.env = (false, eval e X.env) :: starEach es X.env := by rfl) (hpl : (backTo pos (starEach es X.env)).any (·.1) = false := by rfl) : PD X (.Call (.Name "divmod" p) (e :: es) [] pos) ρ r ρ1 := pd_callB hc (hx.mod ▸ hm) ha (hg := hg) (he := he) (hpl := hpl)
theorem a_isi (hx : Cxt X P w K mg base N j) (hm : mg "isinstance" = none) (ha : PAV X (e :: es) ρ as ρ1) (hc : CallD X (.builtin "isinstance") as r) (hg : Gl X "isinstance" := by rfl) (he : starEach (e :: es) X.env = (false, eval e X.env) :: starEach es X.env := by rfl) (hpl : (backTo pos (starEach es X.env)).any (·.1) = false := by rfl) : PD X (.Call (.Name "isinstance" p) (e :: es) [] pos) ρ r ρ1 := pd_callB hc (hx.mod ▸ hm) ha (hg := hg) (he := he) (hpl := hpl)
theorem a_cInt (hx : Cxt X P w K mg base N j) (hm : mg "int" = none) (ha : PAV X (e :: es) ρ as ρ1) (hc : CallD X (.type "int") as r) (hg : Gl X "int" := by rfl) (he : starEach (e :: es) X.env = (false, eval e X.env) :: starEach es X.env := by rfl) (hpl : (backTo pos (starEach es X.env)).any (·.1) = false := by rfl) : PD X (.Call (.Name "int" p) (e :: es) [] pos) ρ r ρ1 := pd_callTy hc (hx.mod ▸ hm) ha (hg := hg) (he := he) (hpl := hpl)
theorem a_cStr (hx : Cxt X P w K mg base N j) (hm : mg "str" = none) (ha : PAV X (e :: es) ρ as ρ1) (hc : CallD X (.type "str") as r) (hg : Gl X "str" := by rfl) (he : starEach (e :: es) X.env = (false, eval e X.env) :: starEach es X.env := by rfl) (hpl : (backTo pos (starEach es X.env)).any (·.1) = false := by rfl) : PD X (.Call (.Name "str" p) (e :: es) [] pos) ρ r ρ1 := pd_callTy hc (hx.mod ▸ hm) ha (hg := hg) (he := he) (hpl := hpl)
theorem a_cList (hx : Cxt X P w K mg base N j) (hm : mg "list" = none) (ha : PAV X (e :: es) ρ as ρ1) (hc : CallD X (.type "list") as r) (hg : Gl X "list" := by rfl) (he : starEach (e :: es) X.env = (false, eval e X.env) :: starEach es X.env := by rfl) (hpl : (backTo pos (starEach es X.env)).any (·.1) = false := by rfl) : PD X (.Call (.Name "list" p) (e :: es) [] pos) ρ r ρ1 := pd_callTy hc (hx.mod ▸ hm) ha (hg := hg) (he := he) (hpl := hpl)
theorem a_cTuple (hx : Cxt X P w K mg base N j) (hm : mg "tuple" = none) (ha : PAV X (e :: es) ρ as ρ1) (hc : CallD X (.type "tuple") as r) (hg : Gl X "tuple" := by rfl) (he : starEach (e :: es) X.env = (false, eval e X.env) :: starEach es X.env := by rfl) (hpl : (backTo pos (starEach es X.env)).any (·.1) = false := by rfl) : PD X (.Call (.Name "tuple" p) (e :: es) [] pos) ρ r ρ1 := pd_callTy hc (hx.mod ▸ hm) ha (hg := hg) (he := he) (hpl := hpl)
theorem cl_lst {xs : List D} : CallD X (.builtin "len") [.lst xs] (.val (.int (xs.length : Int))) := cd_len rfl
theorem cl_map {α : Type} {f : α → D} {xs : List α} : CallD X (.builtin "len") [.lst (xs.map f)] (.val (.int (xs.length : Int))) := cd_len (show some (xs.map f).length = _ by rw [List.length_map])
theorem cl_tup {xs : List D} : CallD X (.builtin "len") [.tup xs] (.val (.int (xs.length : Int))) := cd_len rfl
theorem cl_lstK {xs : List D} : CallD X (.builtin "len") [.lstK xs] (.val (.int (xs.length : Int))) := cd_len rfl
theorem cl_mapK {α : Type} {f : α → D} {xs : List α} : CallD X (.builtin "len") [.lstK (xs.map f)] (.val (.int (xs.length : Int))) := cd_len (show some (xs.map f).length = _ by rw [List.length_map])
theorem cl_list {xs : List D} : CallD X (.type "list") [.lst xs] (.own (.lst xs)) := cd_list rfl
theorem cl_listT {xs : List D} : CallD X (.type "list") [.tup xs] (.own (.lst xs)) := cd_list rfl
theorem cl_isi {cd : D} {t u : Value} {q : Bool} (hx : Cxt X P w K mg base N j) (hc : ClD cd u) (ht : TyD K d t) (hk : PySem.W.kitOne K t u = some q) : CallD X (.builtin "isinstance") [d, cd] (.val (.bl q)) := cd_isi (hx.fr ▸ ht) hc (hx.fr ▸ hk)
theorem cl_isiT {cs : List D} {t : Value} {us : List Value} {q : Bool} (hx : Cxt X P w K mg base N j) (hc : ClDs cs us) (ht : TyD K d t) (hk : PySem.W.kitAny K t us = some q) : CallD X (.builtin "isinstance") [d, .tup cs] (.val (.bl q)) := cd_isiT (hx.fr ▸ ht) hc (hx.fr ▸ hk)
end
/-! ### a few operators with their questions -/
section
variable {X : Cx} {P : Program} {w : World} {K : PySem.W.Frag} {mg : Str → Option Value} {base : Heap} {N : List Str} {n : Nat} {i j : Int} {d : D}
theorem psd_body {bi : Bool} {ss rest : List Stmt} {st : Stmt} {ρ : Rho} {k : Kn} (h : ss = st :: rest) (q : PSD X bi (st :: rest) ρ k) : PSD X bi ss ρ k := h ▸ q
theorem b_mul (h : Side (CMulW i j)) : BinD X (binaryOp .Mult) (.int i) (.int j) (.val (.int (i * j))) := bd_mul h
theorem b_modS (h : Side (0 < j)) : BinD X (binaryOp .Mod) (.int i) (.int j) (.val (.int (i % j))) := bd_mod h
theorem b_divS (h : Side (0 < j ∧ j < 1073741824)) : BinD X (binaryOp .FloorDiv) (.int i) (.int j) (.val (.int (i / j))) := bd_div h
theorem b_cat {x y : Str} (h : Side (x.length + y.length ≤ 1000000)) : BinD X (binaryOp .Add) (.str x) (.str y) (.val (.str (x ++ y))) := bd_cat h
theorem b_catL {xs ys : List D} (h : Side (xs.length + ys.length ≤ 1000000)) : BinD X (binaryOp .Add) (.lst xs) (.lst ys) (.own (.lst (xs ++ ys))) := bd_catL h
def isNon : D → Bool
  | .non => true
  | _ => false
theorem den_isN {K : PySem.W.Frag} {H : Hp} {v : V} {d : D} (h : Den K H v d) : decide (v = .non) = isNon d := by
  cases h <;> first | rfl | (exact decide_eq_false (by intro z; cases z))
theorem b_isN : BinD X (compareOp .Is) d .non (.val (.bl (isNon d))) :=
  opr_imp op_isN fun u v H Q ⟨Hs, e, d1, d2, k⟩ => by
    cases d2
    refine ⟨rfl, ?_⟩
    rw [den_isN d1]
    exact k _ Hs H (Gr.refl e) (.bl _)
theorem b_isnN : BinD X (compareOp .IsNot) d .non (.val (.bl (!isNon d))) :=
  opr_imp op_notN fun u v H Q ⟨Hs, e, d1, d2, k⟩ => by
    cases d2
    refine ⟨rfl, ?_⟩
    rw [den_isN d1]
    exact k _ Hs H (Gr.refl e) (.bl _)
theorem cl_max (hx : Cxt X P w K mg base N n) : CallD X (.builtin "max") [.int i, .int j] (.val (.int (if j > i then j else i))) := cd_max hx.calm
theorem cl_min (hx : Cxt X P w K mg base N n) : CallD X (.builtin "min") [.int i, .int j] (.val (.int (if j < i then j else i))) := cd_min hx.calm
theorem cl_strI (h : Side (i.natAbs.log2 < 1920)) : CallD X (.type "str") [.int i] (.val (.str (toString i))) := cd_strI h
theorem cl_reprI (h : Side (i.natAbs.log2 < 1920)) : CallD X (.builtin "repr") [.int i] (.val (.str (toString i))) := cd_reprI h
theorem cl_divmod (h : Side (0 < j ∧ j < 1073741824)) : CallD X (.builtin "divmod") [.int i, .int j] (.val (.tup [.int (i / j), .int (i % j)])) := cd_divmod h
end
theorem ps1_pair {X : Cx} {bi : Bool} {ρ ρ1 : Rho} {k : Kn} {x y : Str} {px py pt pos : Pos} {kt : Nat} {e : Expr} {d d' : D} (i j : Nat) (hN : X.N.Nodup) (he : PD X e ρ (.val (.tup [d, d'])) ρ1) (hk : k.nx ((ρ1.set i (.val d)).set j (.val d'))) (hc : X.calm = true) (hi : X.N[i]? = some x) (hj : X.N[j]? = some y)
    (hx : Loc X.env.scope x) (hy : Loc X.env.scope y) (hio : i ≠ 0 ∨ bi = false) (hjo : j ≠ 0 ∨ bi = false)
    (hxf : X.fn x = true ∨ X.env.scope.names.lookup x = some .local) (hyf : X.fn y = true ∨ X.env.scope.names.lookup y = some .local) (hs : swapsWithSole [.Tuple [.Name x px, .Name y py] kt pt] e pos.line X.env = pure false) (hw : swappedStores [.Tuple [.Name x px, .Name y py] kt pt] e X.env = pure none) : PS1 X bi (.Assign [.Tuple [.Name x px, .Name y py] kt pt] e pos) ρ k :=
  ps1_asg he (pgd_tup hc (pgd_cons (pgd_name i hN hi hx hio hxf) (pgd_cons (pgd_name j hN hj hy hjo hyf) pgd_nil))) ⟨_, .inl rfl, rfl, _, _, _, rfl, rfl, _, _, _, rfl, rfl, rfl, rfl⟩ hk hs hw
/-! ### statements -/
section
variable {X : Cx} {P : Program} {w : World} {K : PySem.W.Frag} {mg : Str → Option Value} {base : Heap} {N : List Str} {n i i1 i2 i3 : Nat} {ρ ρ1 ρ2 ρ3 ρ4 : Rho} {bi : Bool} {k : Kn} {pos p p1 p2 p3 pt pt2 apos : Pos} {a b c e : Expr} {r : Res} {d d1 d2 d3 : D} {nm nm1 nm2 nm3 : Str} {st : Stmt} {rest body orelse : List Stmt} {s : Sl} {kt k2 : Nat}
theorem a_set (hx : Cxt X P w K mg base N n) (he : PD X e ρ r ρ1) (hs : SlOf r s) (hp : Put N ρ1 nm i s ρ2) (hio : i ≠ 0 ∨ bi = false) (hr : PSD X bi rest ρ2 k) (hl : Loc X.env.scope nm := by first | exact Or.inl rfl | exact Or.inr rfl) (hsw : swapsWith e (some (.Name nm p)) pos.line X.env = pure false := by rfl)
    (hf : X.fn nm = true ∨ X.env.scope.names.lookup nm = some .local := by first | exact .inl rfl | exact .inr rfl) : PSD X bi (.Assign [.Name nm p] e pos :: rest) ρ k :=
  psd_st (ps1_set i (hx.nm ▸ hx.nd) he (by rw [hs.eq, hp.eq]) (hx.nm ▸ hp.name) hl hio hsw hf) hr
theorem a_two (hx : Cxt X P w K mg base N n) (he : PDV X e ρ (.tup [d1, d2]) ρ1) (h1 : Put N ρ1 nm1 i1 (.val d1) ρ2) (h2 : Put N ρ2 nm2 i2 (.val d2) ρ3) (hi : i1 ≠ 0 ∨ bi = false) (hj : i2 ≠ 0 ∨ bi = false) (hr : PSD X bi rest ρ3 k)
    (hl1 : Loc X.env.scope nm1 := by first | exact Or.inl rfl | exact Or.inr rfl) (hl2 : Loc X.env.scope nm2 := by first | exact Or.inl rfl | exact Or.inr rfl)
    (hxf : X.fn nm1 = true ∨ X.env.scope.names.lookup nm1 = some .local := by first | exact .inl rfl | exact .inr rfl) (hyf : X.fn nm2 = true ∨ X.env.scope.names.lookup nm2 = some .local := by first | exact .inl rfl | exact .inr rfl) (hs : swapsWithSole [.Tuple [.Name nm1 p1, .Name nm2 p2] kt pt] e pos.line X.env = pure false := by rfl) (hw : swappedStores [.Tuple [.Name nm1 p1, .Name nm2 p2] kt pt] e X.env = pure none := by rfl) :
    PSD X bi (.Assign [.Tuple [.Name nm1 p1, .Name nm2 p2] kt pt] e pos :: rest) ρ k :=
  psd_st (ps1_pair i1 i2 (hx.nm ▸ hx.nd) he (by rw [h1.eq, h2.eq]) hx.calm (hx.nm ▸ h1.name) (hx.nm ▸ h2.name) hl1 hl2 hi hj hxf hyf hs hw) hr
theorem a_par (hx : Cxt X P w K mg base N n) (ha : PAV X [a, b] ρ [d1, d2] ρ1) (h1 : Put N ρ1 nm1 i1 (.val d1) ρ2) (h2 : Put N ρ2 nm2 i2 (.val d2) ρ3) (hij : i1 ≠ i2) (hio : (i1 ≠ 0 ∧ i2 ≠ 0) ∨ bi = false) (hr : PSD X bi rest ρ3 k)
    (hl1 : X.env.scope.names.lookup nm1 = some .local := by rfl) (hl2 : X.env.scope.names.lookup nm2 = some .local := by rfl)
    (hw : swappedStores [.Tuple [.Name nm1 p1, .Name nm2 p2] kt pt] (.Tuple [a, b] k2 pt2) X.env = pure (some [nm1, nm2]) := by rfl)
    (hs : swapsWithSole [.Tuple [.Name nm1 p1, .Name nm2 p2] kt pt] (.Tuple [a, b] k2 pt2) pos.line X.env = pure false := by rfl) : PSD X bi (.Assign [.Tuple [.Name nm1 p1, .Name nm2 p2] kt pt] (.Tuple [a, b] k2 pt2) pos :: rest) ρ k :=
  psd_st (ps1_par i1 i2 ha (hx.nm ▸ hx.nd) (by rw [h1.eq, h2.eq]) (hx.nm ▸ h1.name) (hx.nm ▸ h2.name) hij hl1 hl2 hio hx.calm hw hs) hr
theorem a_par3 (hx : Cxt X P w K mg base N n) (ha : PAV X [a, b, c] ρ [d1, d2, d3] ρ1) (h1 : Put N ρ1 nm1 i1 (.val d1) ρ2) (h2 : Put N ρ2 nm2 i2 (.val d2) ρ3) (h3 : Put N ρ3 nm3 i3 (.val d3) ρ4) (hij : i1 ≠ i2 ∧ i1 ≠ i3 ∧ i2 ≠ i3) (hio : (i1 ≠ 0 ∧ i2 ≠ 0 ∧ i3 ≠ 0) ∨ bi = false) (hr : PSD X bi rest ρ4 k)
    (hl1 : X.env.scope.names.lookup nm1 = some .local := by rfl) (hl2 : X.env.scope.names.lookup nm2 = some .local := by rfl) (hl3 : X.env.scope.names.lookup nm3 = some .local := by rfl)
    (hw : swappedStores [.Tuple [.Name nm1 p1, .Name nm2 p2, .Name nm3 p3] kt pt] (.Tuple [a, b, c] k2 pt2) X.env = pure (some [nm1, nm2, nm3]) := by rfl)
    (hs : swapsWithSole [.Tuple [.Name nm1 p1, .Name nm2 p2, .Name nm3 p3] kt pt] (.Tuple [a, b, c] k2 pt2) pos.line X.env = pure false := by rfl) : PSD X bi (.Assign [.Tuple [.Name nm1 p1, .Name nm2 p2, .Name nm3 p3] kt pt] (.Tuple [a, b, c] k2 pt2) pos :: rest) ρ k :=
  psd_st (ps_imp (ps_par3 hx.calm (hx.nm ▸ hx.nd) (hx.nm ▸ h1.name) (hx.nm ▸ h2.name) (hx.nm ▸ h3.name) hij.1 hij.2.1 hij.2.2 hl1 hl2 hl3 ha hw hs) fun Z σ H ⟨io, Hf, Hs, hb, E, kk⟩ => ⟨io, Hf, Hs, E, fun vs Hs1 H1 E1 f1 q1 => by
    cases q1 with
    | cons q1 q2 =>
      cases q2 with
      | cons q2 q3 =>
        cases q3 with
        | cons q3 q4 =>
          cases q4
          have g : ∀ m, (m ≠ 0 ∨ bi = false) → m ≠ 0 ∨ io = none := fun m z => z.imp_right hb
          have o1 : i1 ≠ 0 ∨ bi = false := hio.imp_left fun z => z.1
          have o2 : i2 ≠ 0 ∨ bi = false := hio.imp_left fun z => z.2.1
          have o3 : i3 ≠ 0 ∨ bi = false := hio.imp_left fun z => z.2.2
          refine ⟨_, _, _, rfl, kk.nx _ _ Hs1 H1 ?_ (((E1.setv q1 (g _ o1)).setv q2 (g _ o2)).setv q3 (g _ o3)) f1⟩
          show _ = _
          rw [h1.eq, h2.eq, h3.eq]⟩) hr
theorem a_expr (he : PD X e ρ r ρ1) (hr : PSD X bi rest ρ1 k) (hs : swapsWith e none pos.line X.env = pure false := by rfl) : PSD X bi (.Expr e pos :: rest) ρ k := psd_st (ps1_expr he rfl hs) hr
theorem a_append {ds : List D} (hx : Cxt X P w K mg base N n) (h0 : ∃ d0, Slot N ρ nm i (.own (.lst d0))) (he : PDV X e ρ d ρ1) (h1 : Slot N ρ1 nm i (.own (.lst ds))) (hz : Side (ds.length ≤ 1000000)) (hp : Put N ρ1 nm i (.own (.lst (ds ++ [d]))) ρ2) (hr : PSD X bi rest ρ2 k)
    (hv : Vis X.env.scope nm := by first | exact Or.inl rfl | exact Or.inr (Or.inl rfl) | exact Or.inr (Or.inr rfl)) (hd : (nm == ("__debug__" : Str)) = false := by decide) (hcd : (nm == ("__classdict__" : Str)) = false := by decide)
    (hbase : attributeBase (.Name nm p1) "append" X.env (eval (.Name nm p1) X.env) = eval (.Name nm p1) X.env := by rfl)
    (hfew : ((backTo p (starEach [e] X.env)).all (fun x => !x.1) && (backToKw p (keywordEach [] X.env)).all (fun x => x.1.isSome) && decide ([e].length + ([] : List Keyword).length + (if ([] : List Keyword).isEmpty then 0 else 1) < 30)) = true := by rfl)
    (hline : (apos.endLine == p.line) = true := by rfl) (hs : starEach [e] X.env = (false, eval e X.env) :: starEach [] X.env := by rfl) (hplain : (backTo p (starEach [] X.env)).any (·.1) = false := by rfl)
    (hsw : swapsWith (.Call (.Attribute (.Name nm p1) "append" apos) [e] [] p) none pos.line X.env = pure false := by rfl) : PSD X bi (.Expr (.Call (.Attribute (.Name nm p1) "append" apos) [e] [] p) pos :: rest) ρ k := by
  obtain ⟨d0, h0⟩ := h0
  exact psd_st (ps1_append i he h1.val hz hp.eq ⟨d0, h0.val⟩ (hx.nm ▸ h1.name) hv hd hcd hbase hfew hline hs hplain hsw) hr
theorem a_extend {ds es' : List D} (hx : Cxt X P w K mg base N n) (h0 : ∃ d0, Slot N ρ nm i (.own (.lst d0))) (he : PDV X e ρ (.lst es') ρ1) (h1 : Slot N ρ1 nm i (.own (.lst ds))) (hz : Side (ds.length + es'.length ≤ 1000000)) (hp : Put N ρ1 nm i (.own (.lst (ds ++ es'))) ρ2) (hr : PSD X bi rest ρ2 k)
    (hv : Vis X.env.scope nm := by first | exact Or.inl rfl | exact Or.inr (Or.inl rfl) | exact Or.inr (Or.inr rfl)) (hd : (nm == ("__debug__" : Str)) = false := by decide) (hcd : (nm == ("__classdict__" : Str)) = false := by decide)
    (hbase : attributeBase (.Name nm p1) "extend" X.env (eval (.Name nm p1) X.env) = eval (.Name nm p1) X.env := by rfl)
    (hfew : ((backTo p (starEach [e] X.env)).all (fun x => !x.1) && (backToKw p (keywordEach [] X.env)).all (fun x => x.1.isSome) && decide ([e].length + ([] : List Keyword).length + (if ([] : List Keyword).isEmpty then 0 else 1) < 30)) = true := by rfl)
    (hline : (apos.endLine == p.line) = true := by rfl) (hs : starEach [e] X.env = (false, eval e X.env) :: starEach [] X.env := by rfl) (hplain : (backTo p (starEach [] X.env)).any (·.1) = false := by rfl)
    (hsw : swapsWith (.Call (.Attribute (.Name nm p1) "extend" apos) [e] [] p) none pos.line X.env = pure false := by rfl) : PSD X bi (.Expr (.Call (.Attribute (.Name nm p1) "extend" apos) [e] [] p) pos :: rest) ρ k := by
  obtain ⟨d0, h0⟩ := h0
  exact psd_st (ps1_extend i he h1.val hz hp.eq ⟨d0, h0.val⟩ (hx.nm ▸ h1.name) hv hd hcd hbase hfew hline hs hplain hsw) hr
theorem a_sub {ix : Expr} {ds : List D} {z : Int} {m : Nat} (hx : Cxt X P w K mg base N n) (he : PDV X e ρ d ρ1) (h0 : ∃ d0, Slot N ρ1 nm i (.own d0)) (hi : PDV X ix ρ1 (.int z) ρ2) (h1 : Slot N ρ2 nm i (.own (.lst ds))) (hj : Side (ixN ds.length z = some m)) (hp : Put N ρ2 nm i (.own (.lst (ds.set m d))) ρ3) (hr : PSD X bi rest ρ3 k)
    (hv : Vis X.env.scope nm := by first | exact Or.inl rfl | exact Or.inr (Or.inl rfl) | exact Or.inr (Or.inr rfl))
    (hd : (nm == ("__debug__" : Str)) = false := by decide) (hcd : (nm == ("__classdict__" : Str)) = false := by decide) (hs : swapsWithSole [.Subscript (.Name nm p) ix pt] e pos.line X.env = pure false := by rfl) (hw : swappedStores [.Subscript (.Name nm p) ix pt] e X.env = pure none := by rfl)
    (ha : ∀ v, assign (.Subscript (.Name nm p) ix pt) X.env v = (do
      let ov ← holding [v] (eval (.Name nm p) X.env)
      let iv ← holding [v, ov] (eval ix X.env)
      standAt pt
      holding [v, ov, iv] (setItem ov iv v)
      release [v, ov, iv] []) := by intro _; rfl) (hm : (assignEach [.Subscript (.Name nm p) ix pt] X.env).map (·.2) = [assign (.Subscript (.Name nm p) ix pt) X.env] := by rfl) : PSD X bi (.Assign [.Subscript (.Name nm p) ix pt] e pos :: rest) ρ k := by
  obtain ⟨d0, h0⟩ := h0
  exact psd_st (ps1_sub i he hi ⟨d0, h0.val⟩ h1.val hj hp.eq (hx.nm ▸ h1.name) hv hd hcd hs hw ha hm) hr
theorem a_ret (he : PD X e ρ r ρ1) (hk : Side (k.rt r ρ1)) : PSD X bi (.Return (some e) pos :: rest) ρ k := psd_ret he hk
theorem a_retN (hk : Side (k.rt (.val .non) ρ)) : PSD X bi (.Return none pos :: rest) ρ k := psd_retN hk
theorem a_end (h : Side (k.nx ρ)) : PSD X bi [] ρ k := psd_nil h
theorem a_brk (h : Side (k.bk ρ)) : PSD X bi (.Break pos :: rest) ρ k := psd_cons (fun _ => False) (ps1_break h) fun _ z => z.elim
theorem a_cnt (h : Side (k.ct ρ)) : PSD X bi (.Continue pos :: rest) ρ k := psd_cons (fun _ => False) (ps1_continue h) fun _ z => z.elim
theorem a_pass (h : PSD X bi rest ρ k) : PSD X bi (.Pass pos :: rest) ρ k := psd_st (ps1_pass rfl) h
/-- an if that is not taken, without an else -/
theorem a_skip (hc : PTF X c ρ ρ1) (hr : PSD X bi rest ρ1 k) : PSD X bi (.If c body [] pos :: rest) ρ k := psd_skip hc hr
end
/-! ### promises taken apart -/
section
variable {p q : Prop} {α : Sort _} {f : α → Prop}
theorem spg_ex {x : α} (h : SpG (f x)) : SpG (∃ x, f x) := ⟨x, h⟩
theorem spg_and (h : Side p) (h2 : SpG q) : SpG (p ∧ q) := ⟨h, h2⟩
theorem spg_eq {β : Sort _} {x y : β} (h : x = y) (h2 : SpG q) : SpG (x = y ∧ q) := ⟨h, h2⟩
theorem spg_end (h : Side p) : SpG p := h
theorem side_i (h : p) : Side p := h
end
/-! ### bodies -/
section
variable {P : Program} {w : World} {K : PySem.W.Frag} {mg : Str → Option Value} {base : Heap} {x qual : Str} {st : Stmt} {f : Addr} {fd : FuncData} {N ps : List Str} {k : Nat} {gd : Bool}
theorem fnA {S : List D → Res → Prop} (F : FunG K x qual st f fd) (Sc : FnScope N ps (defScope st)) (hl : ∀ ds r, S ds r → ds.length = ps.length)
    (hb : ∀ (cdv : Value) (A : Around) (outer : List Env) (s : Shared) (H : Hp), Cxt (cxOf CX0 P w K mg base N qual (defScope st) f cdv A outer s H E0).nox P w K mg base N k → (gd = true → A.guards = some []) → ∀ ds r, S ds r →
      PSD (cxOf CX0 P w K mg base N qual (defScope st) f cdv A outer s H E0).nox false (defBody st) (rho0 N ds) (kRet r)) : FnB gd P w K mg base (k + 1) f fd ps (spD K S) :=
  fnD F Sc hl fun cdv A outer s H hr hg ds r h => hb cdv A outer s H ⟨rfl, rfl, rfl, rfl, rfl, rfl, Sc.nd, rfl, hr⟩ hg ds r h
theorem fnAIO {T : D → List D → Res → D → Prop} (F : FunG K x qual st f fd) (Sc : FnScope N ps (defScope st)) (hl : ∀ c ds r c', T c ds r c' → ds.length + 1 = ps.length)
    (hb : ∀ (cdv : Value) (A : Around) (outer : List Env) (s : Shared) (H : Hp), Cxt (cxOf CX0 P w K mg base N qual (defScope st) f cdv A outer s H E0).nox P w K mg base N k → (gd = true → A.guards = some []) → ∀ c ds r c', T c ds r c' →
      PSD (cxOf CX0 P w K mg base N qual (defScope st) f cdv A outer s H E0).nox true (defBody st) (.own c :: rho0 N.tail ds) (kIO r c')) : FnB gd P w K mg base (k + 1) f fd ps (spIO K T) :=
  fnIO F Sc hl fun cdv A outer s H hr hg c ds r c' h => hb cdv A outer s H ⟨rfl, rfl, rfl, rfl, rfl, rfl, Sc.nd, rfl, hr⟩ hg c ds r c' h
end
end Dn
end
section
set_option Elab.async false
set_option linter.all false
set_option maxRecDepth 100000
set_option maxHeartbeats 2000000
/-! DAuto2: loops and comprehensions over one name, by slots' names. -/
namespace Dn
open PySem PySem.Spec L2
inductive SeqOf : D → List D → Prop
  | l {xs : List D} : SeqOf (.lst xs) xs
  | k {xs : List D} : SeqOf (.lstK xs) xs
  | t {xs : List D} : SeqOf (.tup xs) xs
section
variable {X : Cx} {P : Program} {w : World} {K : PySem.W.Frag} {mg : Str → Option Value} {base : Heap} {N : List Str} {n m i : Nat} {ρ ρ1 ρ2 ρ3 : Rho} {bi : Bool} {k : Kn} {pos p pos2 : Pos} {tg a b c e iter elt : Expr} {r : Res} {d : D} {xs : List D} {nm : Str} {rest body : List Stmt} {s : Sl} {scope : Scope}
theorem a_pSeq (he : PDV X e ρ d ρ1) (hs : SeqOf d xs) : PID X tg e ρ xs ρ1 := by
  cases hs with
  | l => exact pid_list he
  | k => exact pid_listK he
  | t => exact pid_tup he
theorem a_pRange {z : Int} (hx : Cxt X P w K mg base N n) (hm : mg "range" = none) (ha : PDV X a ρ (.int z) ρ1) (hz : Side (-(2 ^ 62) ≤ z ∧ z < 2 ^ 62)) (hg : Gl X "range" := by rfl) (hs : starEach [a] X.env = [(false, eval a X.env)] := by rfl)
    (hs2 : starEach [a] X.env = (false, eval a X.env) :: starEach [] X.env := by rfl) : PID X tg (.Call (.Name "range" p) [a] [] pos) ρ (rng 0 z.toNat) ρ1 := pid_range1 (hx.mod ▸ hm) ha hz.1 hz.2 hg hs hs2
theorem a_pRange2 {y z : Int} (hx : Cxt X P w K mg base N n) (hm : mg "range" = none) (ha : PDV X a ρ (.int y) ρ1) (hb : PDV X b ρ1 (.int z) ρ2) (hz : Side (-(2 ^ 62) ≤ y ∧ y < 2 ^ 62 ∧ -(2 ^ 62) ≤ z ∧ z < 2 ^ 62)) (hg : Gl X "range" := by rfl)
    (hs : starEach [a, b] X.env = [(false, eval a X.env), (false, eval b X.env)] := by rfl) (hs2 : starEach [b] X.env = [(false, eval b X.env)] := by rfl)
    (h3 : starEach [a, b] X.env = (false, eval a X.env) :: starEach [b] X.env := by rfl) (h4 : starEach [b] X.env = (false, eval b X.env) :: starEach [] X.env := by rfl) : PID X tg (.Call (.Name "range" p) [a, b] [] pos) ρ (rng y (z - y).toNat) ρ2 := pid_range2 (hx.mod ▸ hm) ha hb hz hg hs hs2 h3 h4
/-- for nm in iter: the slots at each turn's start are Iv's -/
theorem a_for (Iv : Nat → Rho → Prop) (hx : Cxt X P w K mg base N n) (hi : PID X (.Name nm p) iter ρ xs ρ1) (ht : Slot N ρ1 nm m s) (hio : m ≠ 0 ∨ bi = false) (h0 : Side (Iv 0 ρ1))
    (hb : ∀ i d ρ', xs[i]? = some d → Iv i ρ' → ∃ ρ2, Put N ρ' nm m (.val d) ρ2 ∧ PSD X bi body ρ2 (kFor { k with nx := fun ρ' => PSD X bi rest ρ' k } Iv i)) (hd : ∀ ρ', Iv xs.length ρ' → PSD X bi rest ρ' k)
    (hp : PassesOwn (model X.prog X.w) X.A X.env X.xe := by exact PassesOwn.never) (hl : Loc X.env.scope nm := by first | exact Or.inl rfl | exact Or.inr rfl) (hf : X.fn nm = true ∨ X.env.scope.names.lookup nm = some .local := by first | exact .inl rfl | exact .inr rfl) (hs : ∀ x, foldedSetIterable iter X.env x = pure x := by intro _; rfl) :
    PSD X bi (.For (.Name nm p) iter body [] pos :: rest) ρ k := by
  refine psd_for Iv hp hi (pgd_name m (hx.nm ▸ hx.nd) (hx.nm ▸ ht.name) hl hio hf) h0 (fun i d ρ' hd iv => ?_) hd hx.calm hs
  obtain ⟨ρ2, h1, h2⟩ := hb i d ρ' hd iv
  exact ⟨ρ2, h1.eq.symm, h2⟩
/-- while c: Iv by what is left; the test's answer is told for each state -/
theorem a_while (Iv : Nat → Rho → Prop) (m0 : Nat) (h0 : Side (Iv m0 ρ)) (ht : ∀ m ρ', Iv m ρ' → ∃ b ρ2, PTD X c ρ' b ρ2 ∧ (b = true → PSD X bi body ρ2 (kWhile { k with nx := fun ρ' => PSD X bi rest ρ' k } Iv m)) ∧ (b = false → PSD X bi rest ρ2 k))
    (hp : PassesOwn (model X.prog X.w) X.A X.env X.xe := by exact PassesOwn.never) : PSD X bi (.While c body [] pos :: rest) ρ k := psd_while Iv m0 hp h0 ht
/-- the elements of a comprehension over one name; R i: the slots ahead of the i-th turn -/
def EltOk (X : Cx) (P : Program) (w : World) (K : PySem.W.Frag) (mg : Str → Option Value) (base : Heap) (N : List Str) (n : Nat) (scope : Scope) (elt : Expr) (nm : Str) (m : Nat) (xs ys : List D) (R : Nat → Rho) : Prop :=
  ∀ (i : Nat) (d y : D), xs[i]? = some d → ys[i]? = some y → ∃ ρ2 ρ3, Put N (R i) nm m (.val d) ρ2 ∧ (∀ (s : Shared) (H : Hp) (C : Addr) (cl : List (Str × Addr)) (fp : List Addr), Cxt (bk X scope s H C cl fp) P w K mg base N n → PDV (bk X scope s H C cl fp) elt ρ2 y ρ3) ∧ Put N ρ3 nm m .non (R (i + 1))
theorem elt_one {R R' : Rho} {y : D} (h1 : Put N R nm m (.val d) ρ2) (h2 : ∀ (s : Shared) (H : Hp) (C : Addr) (cl : List (Str × Addr)) (fp : List Addr), Cxt (bk X scope s H C cl fp) P w K mg base N n → PDV (bk X scope s H C cl fp) elt ρ2 y ρ3) (h3 : Put N ρ3 nm m .non R') :
    ∃ ρ2 ρ3, Put N R nm m (.val d) ρ2 ∧ (∀ (s : Shared) (H : Hp) (C : Addr) (cl : List (Str × Addr)) (fp : List Addr), Cxt (bk X scope s H C cl fp) P w K mg base N n → PDV (bk X scope s H C cl fp) elt ρ2 y ρ3) ∧ Put N ρ3 nm m .non R' := ⟨ρ2, ρ3, h1, h2, h3⟩
theorem put_wipe {R R' : Rho} (h : Put N R nm m .non R') : wipeR R [m] = R' := h.eq
theorem put_non : ∀ {N : List Str} {ρ ρ' : Rho} {nm : Str} {m : Nat}, Put N ρ nm m .non ρ' → Put N ρ' nm m .non ρ'
  | _, _, _, _, _, .z => .z
  | _, _, _, _, _, .s h => .s (put_non h)
theorem elt_R {R : Nat → Rho} {ys : List D} (he : EltOk X P w K mg base N n scope elt nm m xs ys R) (hl : ys.length = xs.length) (h0 : Put N ρ1 nm m .non (R 0)) : ∀ i, i ≤ xs.length → Put N (R i) nm m .non (R i)
  | 0, _ => put_non h0
  | i + 1, hi => by
    obtain ⟨ρ2, ρ3, _, _, h⟩ := he i xs[i] ys[i] (List.getElem?_eq_getElem (by omega)) (List.getElem?_eq_getElem (by omega))
    exact put_non h
theorem lc_of {R : Nat → Rho} {ys : List D} (hx : Cxt X P w K mg base N n) (hi : PID X (.Name nm p) iter ρ xs ρ1) (ht : Slot N ρ1 nm m s) (h0 : Put N ρ1 nm m .non (R 0)) (hm : m ≠ 0) (hl : Side (ys.length = xs.length)) (hz : Side (xs.length ≤ 1000000)) (he : EltOk X P w K mg base N n scope elt nm m xs ys R) :
    ∃ R' : Nat → Rho, R' xs.length = R xs.length ∧ R' 0 = wipeR ρ1 ([(nm, m)].map (·.2)) ∧ (∀ i, wipeR (R' i) ([(nm, m)].map (·.2)) = R' i) ∧ ∀ i d, xs[i]? = some d → TurnOk X scope elt [] (tgName m) ([(nm, m)].map (·.2)) R' (fun i => ys.take i) i d := by
  have hl : ys.length = xs.length := hl
  have rr := elt_R he hl h0
  refine ⟨fun i => R (min i xs.length), by show R (min _ _) = _; rw [Nat.min_self], by show R (min 0 _) = _; rw [Nat.zero_min]; exact h0.eq.symm, fun i => put_wipe (rr _ (Nat.min_le_right _ _)), fun i d hd => ?_⟩
  have hi' : i < xs.length := (List.getElem?_eq_some_iff.mp hd).1
  obtain ⟨ρ2, ρ3, h1, h2, h3⟩ := he i d ys[i] hd (List.getElem?_eq_getElem (by omega))
  have e1 : min i xs.length = i := by omega
  have e2 : min (i + 1) xs.length = i + 1 := by omega
  refine ⟨ρ2, true, ρ2, ?_, ptsb_nil, fun _ => ⟨ys[i], ρ3, fun s H C cl fp => h2 s H C cl fp (hx.blk scope s H C cl fp), ?_, take_step (List.getElem?_eq_getElem (by omega))⟩, fun z => nomatch z⟩
  · show ρ2 = (R (min i xs.length)).set m (.val d)
    rw [e1]
    exact h1.eq.symm
  · show wipeR ρ3 [m] = R (min (i + 1) xs.length)
    rw [e2]
    exact h3.eq
/-- [elt for nm in iter] -/
theorem a_lc (ys : List D) (R : Nat → Rho) (hx : Cxt X P w K mg base N n) (hi : PID X (.Name nm p) iter ρ xs ρ1) (ht : Slot N ρ1 nm m s) (h0 : Put N ρ1 nm m .non (R 0)) (hm : m ≠ 0) (ok : BlkOk X.N X.env.scope scope [(nm, m)]) (hl : Side (ys.length = xs.length)) (hz : Side (xs.length ≤ 1000000)) (he : EltOk X P w K mg base N n scope elt nm m xs ys R)
    (hg : ∀ (s : Shared) (H : Hp) (C : Addr) (cl : List (Str × Addr)) (fp : List Addr), Loc (bk X scope s H C cl fp).env.scope nm ∧ ((bk X scope s H C cl fp).fn nm = true ∨ (bk X scope s H C cl fp).env.scope.names.lookup nm = some .local) := by exact fun _ _ _ _ _ => ⟨by first | exact Or.inl rfl | exact Or.inr rfl, by first | exact .inl rfl | exact .inr rfl⟩) (hs : ∀ x, foldedSetIterable iter X.env x = pure x := by intro _; rfl) : PD X (.ListComp elt [⟨.Name nm p, iter, [], 0⟩] scope pos) ρ (.own (.lst ys)) (R xs.length) := by
  obtain ⟨R', e1, e2, e3, e4⟩ := lc_of hx hi ht h0 hm hl hz he
  have hl : ys.length = xs.length := hl
  have q := pd_lc (pos := pos) [(nm, m)] R' (fun i => ys.take i) (hx.nm ▸ hx.nd) hi ok (fun s H C cl fp => pgd_name m (by show X.N.Nodup; exact hx.nm ▸ hx.nd) (by show X.N[m]? = _; exact hx.nm ▸ ht.name) (hg s H C cl fp).1 (.inl hm) (hg s H C cl fp).2) e2 e3 rfl (fun i => by rw [List.length_take]; omega) hz e4 (by intro t ht; simpa using ht) (by intro v hv; simp at hv; subst hv; exact hm) hx.calm hs
  rw [e1, ← hl, List.take_length] at q
  rw [← hl]
  exact q
theorem a_lcN (ys : List D) (R : Nat → Rho) (Rn : Rho) (hx : Cxt X P w K mg base N n) (hi : PID X (.Name nm p) iter ρ xs ρ1) (ht : Slot N ρ1 nm m s) (h0 : Put N ρ1 nm m .non (R 0)) (hm : m ≠ 0) (ok : BlkOk X.N X.env.scope scope [(nm, m)]) (hl : Side (ys.length = xs.length)) (hz : Side (xs.length ≤ 1000000)) (hn : Side (R xs.length = Rn)) (he : EltOk X P w K mg base N n scope elt nm m xs ys R)
    (hg : ∀ (s : Shared) (H : Hp) (C : Addr) (cl : List (Str × Addr)) (fp : List Addr), Loc (bk X scope s H C cl fp).env.scope nm ∧ ((bk X scope s H C cl fp).fn nm = true ∨ (bk X scope s H C cl fp).env.scope.names.lookup nm = some .local) := by exact fun _ _ _ _ _ => ⟨by first | exact Or.inl rfl | exact Or.inr rfl, by first | exact .inl rfl | exact .inr rfl⟩) (hs : ∀ x, foldedSetIterable iter X.env x = pure x := by intro _; rfl) : PD X (.ListComp elt [⟨.Name nm p, iter, [], 0⟩] scope pos) ρ (.own (.lst ys)) Rn := by
  have q := a_lc (pos := pos) ys R hx hi ht h0 hm ok hl hz he hg hs
  rw [show R xs.length = Rn from hn] at q
  exact q
/-- name = [elt for nm in iter], on one line -/
theorem a_setLc {y : Str} {py spos : Pos} {iy : Nat} (ys : List D) (R : Nat → Rho) (hx : Cxt X P w K mg base N n) (hi : PID X (.Name nm p) iter ρ xs ρ1) (ht : Slot N ρ1 nm m s) (h0 : Put N ρ1 nm m .non (R 0)) (hm : m ≠ 0) (ok : BlkOk X.N X.env.scope scope [(nm, m)]) (hl : Side (ys.length = xs.length)) (hz : Side (xs.length ≤ 1000000)) (he : EltOk X P w K mg base N n scope elt nm m xs ys R)
    (hy : Put N (R xs.length) y iy (.own (.lst ys)) ρ2) (hio : iy ≠ 0 ∨ bi = false) (hr : PSD X bi rest ρ2 k) (hsw : swapsWith (.ListComp elt [⟨.Name nm p, iter, [], 0⟩] scope pos) (some (.Name y py)) spos.line X.env = pure true := by rfl) (hyl : X.env.scope.names.lookup y = some .local := by rfl)
    (hg : ∀ (s : Shared) (H : Hp) (C : Addr) (cl : List (Str × Addr)) (fp : List Addr), Loc (bk X scope s H C cl fp).env.scope nm ∧ ((bk X scope s H C cl fp).fn nm = true ∨ (bk X scope s H C cl fp).env.scope.names.lookup nm = some .local) := by exact fun _ _ _ _ _ => ⟨by first | exact Or.inl rfl | exact Or.inr rfl, by first | exact .inl rfl | exact .inr rfl⟩) (hs : ∀ x, foldedSetIterable iter X.env x = pure x := by intro _; rfl) : PSD X bi (.Assign [.Name y py] (.ListComp elt [⟨.Name nm p, iter, [], 0⟩] scope pos) spos :: rest) ρ k := by
  obtain ⟨R', e1, e2, e3, e4⟩ := lc_of hx hi ht h0 hm hl hz he
  have hl : ys.length = xs.length := hl
  refine psd_st (ρ1 := ρ2) (ps1_lc iy [(nm, m)] R' (fun i => ys.take i) (hx.nm ▸ hx.nd) hi ok (fun s H C cl fp => pgd_name m (by show X.N.Nodup; exact hx.nm ▸ hx.nd) (by show X.N[m]? = _; exact hx.nm ▸ ht.name) (hg s H C cl fp).1 (.inl hm) (hg s H C cl fp).2) e2 e3 rfl (fun i => by rw [List.length_take]; omega) hz e4 hsw ?_ (hx.nm ▸ hy.name) hyl hio (by intro t ht; simpa using ht) (by intro v hv; simp at hv; subst hv; exact hm) hx.calm hs) hr
  show (R' xs.length).set iy (.own (.lst (ys.take xs.length))) = ρ2
  rw [e1, ← hl, List.take_length, hl]
  exact hy.eq
end
/-! ### three names from a list or a tuple; repeated lists -/
def tgLst3 (f : List D → Rho → Rho → Prop) (n : Nat) : D → Rho → Rho → Prop := fun d ρ ρ' => ∃ ds, (d = .lst ds ∨ d = .lstK ds) ∧ ds.length = n ∧ f ds ρ ρ'
section
variable {X : Cx} {P : Program} {w : World} {K : PySem.W.Frag} {mg : Str → Option Value} {base : Heap} {N : List Str} {n i1 i2 i3 kt : Nat} {ρ ρ1 ρ2 ρ3 ρ4 : Rho} {bi : Bool} {k : Kn} {pos pt p1 p2 p3 : Pos} {e : Expr} {d1 d2 d3 : D} {nm1 nm2 nm3 : Str} {rest : List Stmt}
theorem pgd_lst3 {tgs : List Expr} {ts : List Nat} {g : List D → Rho → Rho → Prop} {m : Nat} (hc : X.calm = true) (h : PGsD X bi tgs ts g) (hn : (assignEach tgs X.env).length = m) (hst : (assignEach tgs X.env).findIdx? (·.1) = none) : PGD X bi (.Tuple tgs kt pos) ts (tgLst3 g m) :=
  pg_imp (pg_lst hc h hn hst) fun v σ H Q ⟨io, Hf, Hs, ρ, ρ', d, hb, E, h, ⟨ds, e, hl, hg⟩, k⟩ => by
    obtain ⟨a, vs, rfl, q1, q2⟩ := Den.seqL (K := X.K) (H := Hs) (v := v) (ds := ds) (by rcases e with e | e; (subst e; exact .inl h); (subst e; exact .inr h))
    exact ⟨a, vs, rfl, ex_l E.st q1, q2.length.trans hl, io, Hf, Hs, ρ, ρ', ds, hb, E, q2, hg, k⟩
theorem a_threeL (hx : Cxt X P w K mg base N n) (he : PDV X e ρ (.lst [d1, d2, d3]) ρ1) (h1 : Put N ρ1 nm1 i1 (.val d1) ρ2) (h2 : Put N ρ2 nm2 i2 (.val d2) ρ3) (h3 : Put N ρ3 nm3 i3 (.val d3) ρ4) (g1 : i1 ≠ 0 ∨ bi = false) (g2 : i2 ≠ 0 ∨ bi = false) (g3 : i3 ≠ 0 ∨ bi = false) (hr : PSD X bi rest ρ4 k)
    (hl1 : Loc X.env.scope nm1 := by first | exact Or.inl rfl | exact Or.inr rfl) (hl2 : Loc X.env.scope nm2 := by first | exact Or.inl rfl | exact Or.inr rfl) (hl3 : Loc X.env.scope nm3 := by first | exact Or.inl rfl | exact Or.inr rfl)
    (f1 : X.fn nm1 = true ∨ X.env.scope.names.lookup nm1 = some .local := by first | exact .inl rfl | exact .inr rfl) (f2 : X.fn nm2 = true ∨ X.env.scope.names.lookup nm2 = some .local := by first | exact .inl rfl | exact .inr rfl) (f3 : X.fn nm3 = true ∨ X.env.scope.names.lookup nm3 = some .local := by first | exact .inl rfl | exact .inr rfl)
    (hs : swapsWithSole [.Tuple [.Name nm1 p1, .Name nm2 p2, .Name nm3 p3] kt pt] e pos.line X.env = pure false := by rfl) (hw : swappedStores [.Tuple [.Name nm1 p1, .Name nm2 p2, .Name nm3 p3] kt pt] e X.env = pure none := by rfl) :
    PSD X bi (.Assign [.Tuple [.Name nm1 p1, .Name nm2 p2, .Name nm3 p3] kt pt] e pos :: rest) ρ k :=
  psd_st (ps1_asg he (pgd_lst3 (m := 3) hx.calm (pgd_cons (pgd_name i1 (hx.nm ▸ hx.nd) (hx.nm ▸ h1.name) hl1 g1 f1) (pgd_cons (pgd_name i2 (hx.nm ▸ hx.nd) (hx.nm ▸ h2.name) hl2 g2 f2) (pgd_cons (pgd_name i3 (hx.nm ▸ hx.nd) (hx.nm ▸ h3.name) hl3 g3 f3) pgd_nil))) rfl rfl) ⟨_, .inl rfl, rfl, _, _, _, rfl, rfl, _, _, _, rfl, rfl, _, _, _, rfl, rfl, rfl, rfl⟩ (by rw [h1.eq, h2.eq, h3.eq]) hs hw) hr
theorem a_threeT (hx : Cxt X P w K mg base N n) (he : PDV X e ρ (.tup [d1, d2, d3]) ρ1) (h1 : Put N ρ1 nm1 i1 (.val d1) ρ2) (h2 : Put N ρ2 nm2 i2 (.val d2) ρ3) (h3 : Put N ρ3 nm3 i3 (.val d3) ρ4) (g1 : i1 ≠ 0 ∨ bi = false) (g2 : i2 ≠ 0 ∨ bi = false) (g3 : i3 ≠ 0 ∨ bi = false) (hr : PSD X bi rest ρ4 k)
    (hl1 : Loc X.env.scope nm1 := by first | exact Or.inl rfl | exact Or.inr rfl) (hl2 : Loc X.env.scope nm2 := by first | exact Or.inl rfl | exact Or.inr rfl) (hl3 : Loc X.env.scope nm3 := by first | exact Or.inl rfl | exact Or.inr rfl)
    (f1 : X.fn nm1 = true ∨ X.env.scope.names.lookup nm1 = some .local := by first | exact .inl rfl | exact .inr rfl) (f2 : X.fn nm2 = true ∨ X.env.scope.names.lookup nm2 = some .local := by first | exact .inl rfl | exact .inr rfl) (f3 : X.fn nm3 = true ∨ X.env.scope.names.lookup nm3 = some .local := by first | exact .inl rfl | exact .inr rfl)
    (hs : swapsWithSole [.Tuple [.Name nm1 p1, .Name nm2 p2, .Name nm3 p3] kt pt] e pos.line X.env = pure false := by rfl) (hw : swappedStores [.Tuple [.Name nm1 p1, .Name nm2 p2, .Name nm3 p3] kt pt] e X.env = pure none := by rfl) :
    PSD X bi (.Assign [.Tuple [.Name nm1 p1, .Name nm2 p2, .Name nm3 p3] kt pt] e pos :: rest) ρ k :=
  psd_st (ps1_asg he (pgd_tup (n := 3) hx.calm (pgd_cons (pgd_name i1 (hx.nm ▸ hx.nd) (hx.nm ▸ h1.name) hl1 g1 f1) (pgd_cons (pgd_name i2 (hx.nm ▸ hx.nd) (hx.nm ▸ h2.name) hl2 g2 f2) (pgd_cons (pgd_name i3 (hx.nm ▸ hx.nd) (hx.nm ▸ h3.name) hl3 g3 f3) pgd_nil))) rfl rfl) ⟨_, .inl rfl, rfl, _, _, _, rfl, rfl, _, _, _, rfl, rfl, _, _, _, rfl, rfl, rfl, rfl⟩ (by rw [h1.eq, h2.eq, h3.eq]) hs hw) hr
theorem b_repL {xs : List D} {z : Int} (h : Side (0 ≤ z ∧ xs.length * z.toNat ≤ 1000000 ∧ z ≤ 1000000)) : BinD X (binaryOp .Mult) (.lst xs) (.int z) (.own (.lst (List.replicate z.toNat xs).flatten)) := bd_repL h.1 h.2.1 h.2.2
/-- an own class made, a default behind -/
theorem a_makeD {as dds : List D} {dvs : List V} {es : List Expr} {p : Pos} {nm : Str} {C : Addr} {T : D → List D → Res → D → Prop} {j : Nat} {fs : List (Str × D)} (hx : Cxt X P w K mg base N n) (cl : Mak P w K mg base j nm C (spIO K T) dvs) (ha : PAV X (e :: es) ρ as ρ1) (hdv : ∀ H, Dens K H dvs dds) (hT : SpG (T (.obj C []) (as ++ dds) (.val .non) (.obj C fs))) (hk : j + 1 ≤ n := by decide) (hg : Gl X nm := by rfl)
    (hdb : (nm == ("__debug__" : Str)) = false := by decide) (he : starEach (e :: es) X.env = (false, eval e X.env) :: starEach es X.env := by rfl) (hpl : (backTo pos (starEach es X.env)).any (·.1) = false := by rfl) : PD X (.Call (.Name nm p) (e :: es) [] pos) ρ (.own (.obj C fs)) ρ1 := by
  obtain ⟨q1, q2, q3, q4, q5, q6, _, _, room⟩ := hx
  subst q1 q2 q3 q4 q5 q6
  exact pd_make cl room ha hT hdv hk hg hdb he hpl
end
/-! ### an if, either way -/
section
variable {X : Cx} {bi q : Bool} {ρ ρ1 : Rho} {k k' : Kn} {pos : Pos} {c : Expr} {body orelse rest ss : List Stmt}
theorem psd_mono (h : PSD X bi ss ρ k) (h1 : ∀ ρ', k.nx ρ' → k'.nx ρ') (h2 : ∀ r ρ', k.rt r ρ' → k'.rt r ρ') (h3 : ∀ ρ', k.bk ρ' → k'.bk ρ') (h4 : ∀ ρ', k.ct ρ' → k'.ct ρ') : PSD X bi ss ρ k' :=
  pss_imp h fun Z σ H ⟨io, Hf, Hs, hb, E, kk⟩ => ⟨io, Hf, Hs, hb, E, ⟨fun ρ' σ' Hs' H' m E' f => kk.nx ρ' σ' Hs' H' (h1 _ m) E' f, fun r ρ' v σ' Hs' H' m E' f z => kk.rt r ρ' v σ' Hs' H' (h2 _ _ m) E' f z, fun ρ' σ' Hs' H' m E' f => kk.bk ρ' σ' Hs' H' (h3 _ m) E' f, fun ρ' σ' Hs' H' m E' f => kk.ct ρ' σ' Hs' H' (h4 _ m) E' f⟩⟩
def IfG (X : Cx) (bi q : Bool) (body orelse rest : List Stmt) (ρ : Rho) (k : Kn) : Prop :=
  (q = true → PSD X bi body ρ { k with nx := fun ρ' => PSD X bi rest ρ' k }) ∧ (q = false → PSD X bi orelse ρ { k with nx := fun ρ' => PSD X bi rest ρ' k })
theorem a_ifG (hc : PTD X c ρ q ρ1) (h : IfG X bi q body orelse rest ρ1 k) : PSD X bi (.If c body orelse pos :: rest) ρ k := psd_if hc h.1 h.2
theorem ifg_t (hq : Side (q = true)) (h : PSD X bi body ρ { k with nx := fun ρ' => PSD X bi rest ρ' k }) : IfG X bi q body orelse rest ρ k := ⟨fun _ => h, fun z => absurd (z.symm.trans hq) (by decide)⟩
theorem ifg_f (hq : Side (q = false)) (h : PSD X bi orelse ρ { k with nx := fun ρ' => PSD X bi rest ρ' k }) : IfG X bi q body orelse rest ρ k := ⟨fun z => absurd (z.symm.trans hq) (by decide), fun _ => h⟩
/-- .. at slots of which Mp holds -/
theorem ifg_p (Mp : Rho → Prop) (ha : q = true → PSD X bi body ρ { k with nx := Mp }) (hb : q = false → PSD X bi orelse ρ { k with nx := Mp }) (hr : ∀ ρ', Mp ρ' → PSD X bi rest ρ' k) : IfG X bi q body orelse rest ρ k :=
  ⟨fun z => psd_mono (ha z) (fun ρ' e => hr ρ' e) (fun _ _ h => h) (fun _ h => h) (fun _ h => h), fun z => psd_mono (hb z) (fun ρ' e => hr ρ' e) (fun _ _ h => h) (fun _ h => h) (fun _ h => h)⟩
end
end Dn
end
section
set_option Elab.async false
set_option linter.all false
set_option maxRecDepth 100000
set_option maxHeartbeats 2000000
/-! DMore3: len of an owned list that stays owned. -/
namespace Dn
open PySem PySem.Spec L2
section
variable {X : Cx} {ρ ρ1 : Rho} {p pos p2 : Pos}
theorem pd_lenO (j : Nat) {x : Str} {ds : List D} (hm : X.mg "len" = none) (ho : ρ[j]? = some (.own (.lst ds))) (hN : X.N[j]? = some x)
    (hv : Vis X.env.scope x := by first | exact Or.inl rfl | exact Or.inr (Or.inl rfl) | exact Or.inr (Or.inr rfl)) (hd : (x == ("__debug__" : Str)) = false := by decide) (hcd : (x == ("__classdict__" : Str)) = false := by decide) (hg : Gl X "len" := by rfl)
    (he : starEach [.Name x p2] X.env = (false, eval (.Name x p2) X.env) :: starEach [] X.env := by rfl) (hpl : (backTo pos (starEach [] X.env)).any (·.1) = false := by rfl) : PD X (.Call (.Name "len" p) [.Name x p2] [] pos) ρ (.val (.int (ds.length : Int))) ρ :=
  pe_imp (pe_callB call_len hg hm (by decide +kernel) (pa_cons (pe_var hN hv hd hcd) pa_nil he) (by decide) (by decide) he hpl) fun σ H Q ⟨io, Hf, Hs, E, k⟩ => by
    obtain ⟨q, g1, g2, g3, g4⟩ := E.own j _ ho
    obtain ⟨vs, y1, y2⟩ := g2
    exact ⟨.ref q, g1, .ref q, ds.length, rfl, .inl ⟨vs, SqL.of y1, y2.length.symm⟩, k _ Hs H E ExF.refl (.int _)⟩
end
theorem a_lenO {X : Cx} {P : Program} {w : World} {K : PySem.W.Frag} {mg : Str → Option Value} {base : Heap} {N : List Str} {n : Nat} {ρ : Rho} {p pos p2 : Pos} {i : Nat} {nm : Str} {ds : List D} (hx : Cxt X P w K mg base N n) (hm : mg "len" = none) (h0 : Slot N ρ nm i (.own (.lst ds)))
    (hv : Vis X.env.scope nm := by first | exact Or.inl rfl | exact Or.inr (Or.inl rfl) | exact Or.inr (Or.inr rfl)) (hd : (nm == ("__debug__" : Str)) = false := by decide) (hcd : (nm == ("__classdict__" : Str)) = false := by decide) (hg : Gl X "len" := by rfl)
    (he : starEach [.Name nm p2] X.env = (false, eval (.Name nm p2) X.env) :: starEach [] X.env := by rfl) (hpl : (backTo pos (starEach [] X.env)).any (·.1) = false := by rfl) : PD X (.Call (.Name "len" p) [.Name nm p2] [] pos) ρ (.val (.int (ds.length : Int))) ρ :=
  pd_lenO i (hx.mod ▸ hm) h0.val (hx.nm ▸ h0.name) hv hd hcd hg he hpl
end Dn
end
section
set_option Elab.async false
set_option linter.all false
set_option maxRecDepth 100000
set_option maxHeartbeats 2000000
/-! DDig: the decimal digits of ints, cut at 60 digits. -/
namespace Dn
open PySem PySem.Spec L2
def sx (l : List Char) : Str := ⟨(l.map Char.toNat).toArray⟩
theorem sx_of (s : String) : Str.ofString s = sx s.toList := Str.ofString_eq_toList s
theorem sx_app (a b : List Char) : sx a ++ sx b = sx (a ++ b) := by
  show Str.mk ((a.map Char.toNat).toArray ++ (b.map Char.toNat).toArray) = _
  unfold sx
  rw [List.map_append, List.append_toArray]
theorem sx_len (a : List Char) : (sx a).length = a.length := by
  show (a.map Char.toNat).toArray.size = _
  simp
theorem str_nat (n : Nat) : Str.ofString (toString (n : Int)) = sx (Nat.toDigits 10 n) := by
  rw [sx_of]
  have e : (toString (n : Int)).toList = Nat.toDigits 10 n := by
    show (toString n).toList = _
    show (Nat.repr n).toList = _
    unfold Nat.repr
    simp
  rw [e]
theorem str_neg {n : Nat} (h : 0 < n) : Str.ofString (toString (-(n : Int))) = sx ('-' :: Nat.toDigits 10 n) := by
  obtain ⟨m, rfl⟩ : ∃ m, n = m + 1 := ⟨n - 1, by omega⟩
  rw [sx_of]
  have e : (toString (-((m + 1 : Nat) : Int))).toList = '-' :: Nat.toDigits 10 (m + 1) := by
    show (toString (Int.negSucc m)).toList = _
    show ("-" ++ toString (m + 1)).toList = _
    rw [String.toList_append]
    show "-".toList ++ (Nat.repr (m + 1)).toList = _
    unfold Nat.repr
    simp
  rw [e]
theorem dg_nil (n : Nat) : Nat.toDigits 10 n ≠ [] := fun e => by
  have q : 0 < (Nat.toDigits 10 n).length := Nat.length_toDigits_pos
  rw [e] at q
  exact absurd q (by decide)
theorem dg_step {n : Nat} (h : 10 ≤ n) : Nat.toDigits 10 n = Nat.toDigits 10 (n / 10) ++ Nat.toDigits 10 (n % 10) := by
  have e := Nat.toDigits_append_toDigits (b := 10) (n := n / 10) (d := n % 10) (by decide) (by omega) (Nat.mod_lt _ (by decide))
  rw [e, Nat.div_add_mod]
theorem dg_split : ∀ (k n : Nat), 10 ^ k ≤ n → Nat.toDigits 10 n = Nat.toDigits 10 (n / 10 ^ k) ++ (Nat.toDigits 10 (n % 10 ^ k + 10 ^ k)).drop 1
  | 0, n, h => by
    rw [Nat.pow_zero, Nat.div_one, Nat.mod_one]
    show _ = _ ++ (Nat.toDigits 10 1).drop 1
    have : (Nat.toDigits 10 1).drop 1 = [] := by decide
    rw [this, List.append_nil]
  | k + 1, n, h => by
    have p : 0 < 10 ^ k := Nat.pow_pos (by decide)
    have e : 10 ^ (k + 1) = 10 * 10 ^ k := by rw [Nat.pow_succ, Nat.mul_comm]
    have h1 : 10 ^ k ≤ n / 10 := (Nat.le_div_iff_mul_le (by decide)).mpr (by rw [e] at h; omega)
    have d : n / 10 ^ (k + 1) = n / 10 / 10 ^ k := by rw [Nat.div_div_eq_div_mul, e]
    have r1 : (n % 10 ^ (k + 1) + 10 ^ (k + 1)) / 10 = n / 10 % 10 ^ k + 10 ^ k := by
      rw [e, Nat.add_mul_div_left _ _ (by decide), Nat.mod_mul_right_div_self]
    have r2 : (n % 10 ^ (k + 1) + 10 ^ (k + 1)) % 10 = n % 10 := by
      rw [e, Nat.add_mul_mod_self_left, Nat.mod_mul_right_mod]
    have big : 10 ≤ n % 10 ^ (k + 1) + 10 ^ (k + 1) := by rw [e]; omega
    have big2 : 10 ≤ n := by rw [e] at h; omega
    rw [dg_step big2, dg_split k (n / 10) h1, d, dg_step big, r1, r2, List.append_assoc]
    congr 1
    rw [List.drop_append_of_le_length]
    have q : 0 < (Nat.toDigits 10 (n / 10 % 10 ^ k + 10 ^ k)).length := Nat.length_toDigits_pos
    omega
theorem cut1 (l : List Char) (h : l ≠ []) : cutS (sx l) (some 1) none = sx (l.drop 1) := by
  have p : 1 ≤ l.length := by
    cases l with
    | nil => exact absurd rfl h
    | cons a b => exact Nat.succ_le_succ (Nat.zero_le _)
  have e1 : HT.sIx (sx l).length 0 (some 1) = 1 := by
    rw [show (some (1 : Int)) = some ((1 : Nat) : Int) from rfl, HT.sIx_nat, sx_len]
    omega
  unfold cutS
  rw [e1, HT.sIx_none, sx_len]
  show Str.mk (((l.map Char.toNat).drop 1).take (l.length - 1)).toArray = _
  rw [List.take_of_length_le (by rw [List.length_drop, List.length_map]; exact Nat.le_refl _), ← List.map_drop]
  rfl
theorem dg_len {n : Nat} {k : Nat} (hk : 0 < k) (h : Bd k (n : Int)) : (Nat.toDigits 10 n).length ≤ k + 1 := by
  have e := int_text_length_le (a := (n : Int)) hk (h.log (Nat.le_refl _) hk)
  have q : (Str.ofString (toString (n : Int))).length = (toString (n : Int)).length := ofString_length _
  rw [str_nat, sx_len] at q
  omega
end Dn
end
section
set_option Elab.async false
set_option linter.all false
set_option maxRecDepth 100000
set_option maxHeartbeats 2000000
/-! DMore4: insert(0, ..), pop(), an owned list beside the empty one. -/
namespace Dn
open PySem PySem.Spec L2
section
variable {X : Cx} {bi : Bool} {ρ ρ1 ρ2 : Rho} {k : Kn} {p pos p2 apos : Pos} {e0 e b : Expr} {rest : List Stmt} {r : Res} {d y : D}
/-- an owned list compared: it stays owned -/
theorem ptd_cmpO {op : CmpOp} {q : Bool} (j : Nat) {x : Str} {ds : List D} (h0 : ρ[j]? = some (.own (.lst ds))) (hN : X.N[j]? = some x) (hb : PD X b ρ (.val y) ρ1) (h1 : ρ1[j]? = some (.own (.lst ds))) (ho : BinD X (compareOp op) (.lst ds) y (.val (.bl q))) (hm : behindInMarks op b = false)
    (hv : Vis X.env.scope x) (hd : (x == ("__debug__" : Str)) = false) (hcd : (x == ("__classdict__" : Str)) = false) : PTD X (.Compare (.Name x p) [op] [b] pos) ρ q ρ1 :=
  pt_imp (pt_cmpR ho (pe_var hN hv hd hcd) hb hm) fun σ H Q ⟨io, Hf, Hs, E, kk⟩ => by
    obtain ⟨q0, g1, g2, g3, g4⟩ := E.own j _ h0
    refine ⟨.ref q0, g1, io, Hf, Hs, E, fun v Hs2 H2 E2 f2 d2 => ?_⟩
    obtain ⟨q', z1, ⟨vs, y1, y2⟩, z3, z4⟩ := E2.own j _ h1
    rw [g1] at z1
    cases z1
    have ex : Ex (upd Hs2 q0 (.lst vs)) H2 := fun a u z => by
      by_cases c : a = q0
      · subst c
        rw [upd_same] at z
        rw [y1]
        exact z
      · rw [upd_ne c] at z
        exact E2.st a u z
    refine ⟨upd Hs2 q0 (.lst vs), ex, .lst upd_same (y2.mono (Ex.new z3)), Den.mono (Ex.new z3) d2, fun w Hs3 H3 g qq => ?_⟩
    obtain ⟨E3, f3⟩ := E2.gr (gr_of E2.st g.ex)
    cases qq
    exact ⟨q, rfl, kk Hs2 H3 E3 (f2.trans f3)⟩
theorem bd_neNilD {ds : List D} {j : Nat} (hr : Room j X.A) (hk : 1 ≤ j := by decide) : BinD X (compareOp .NotEq) (.lst ds) (.lst []) (.val (.bl (!decide (ds.length = 0)))) := by
  cases ds with
  | nil => exact bd_neL (k := 0) .nil hr hk
  | cons d r => exact bd_neLn (by simp) hr
theorem bd_eqNilD {ds : List D} {j : Nat} (hr : Room j X.A) (hk : 1 ≤ j := by decide) : BinD X (compareOp .Eq) (.lst ds) (.lst []) (.val (.bl (decide (ds.length = 0)))) := by
  cases ds with
  | nil => exact bd_eqL (k := 0) .nil hr hk
  | cons d r => exact bd_eqLn (by simp) hr
theorem ps1_insert0 (i : Nat) {x : Str} {px : Pos} {ds : List D} (he : PAD X [e0, e] ρ [.int 0, d] ρ1) (h1 : ρ1[i]? = some (.own (.lst ds))) (hz : ds.length ≤ 1000000) (hk : k.nx (ρ1.set i (.own (.lst (d :: ds))))) (h0 : ∃ d0, ρ[i]? = some (.own (.lst d0))) (hN : X.N[i]? = some x)
    (hv : Vis X.env.scope x) (hd : (x == ("__debug__" : Str)) = false) (hcd : (x == ("__classdict__" : Str)) = false)
    (hbase : attributeBase (.Name x px) "insert" X.env (eval (.Name x px) X.env) = eval (.Name x px) X.env)
    (hfew : ((backTo p (starEach [e0, e] X.env)).all (fun x => !x.1) && (backToKw p (keywordEach [] X.env)).all (fun x => x.1.isSome) && decide ([e0, e].length + ([] : List Keyword).length + (if ([] : List Keyword).isEmpty then 0 else 1) < 30)) = true)
    (hline : (apos.endLine == p.line) = true) (hs : starEach [e0, e] X.env = (false, eval e0 X.env) :: starEach [e] X.env) (hplain : (backTo p (starEach [e] X.env)).any (·.1) = false)
    (hsw : swapsWith (.Call (.Attribute (.Name x px) "insert" apos) [e0, e] [] p) none pos.line X.env = pure false) : PS1 X bi (.Expr (.Call (.Attribute (.Name x px) "insert" apos) [e0, e] [] p) pos) ρ k :=
  ps_imp (ps_expr (pe_bm PySem.F.plainAttrs_list PySem.F.slot_list_insert PySem.F.type_list_insert mt_insert (pe_var hN hv hd hcd) he hbase hfew hline hs hplain) hsw) fun Z σ H ⟨io, Hf, Hs, hb, E, kk⟩ => by
    obtain ⟨d0, h0⟩ := h0
    obtain ⟨a, vs0, g1, g2, g3⟩ := own_lst E h0
    refine ⟨_, g1, .inl ⟨rfl, _, SqL.of g2⟩, io, Hf, Hs, E, fun us Hs1 H1 E1 f1 q1 => ?_⟩
    obtain ⟨a', vs, y1, y2, y3⟩ := own_lst E1 h1
    rw [g1] at y1
    cases y1
    obtain ⟨u, v, rfl, q2, q3⟩ := two q1
    cases q2
    refine ⟨a, vs, 0, v, rfl, rfl, y2, by rw [y3.length, sizeLine_eq]; omega, by decide, by decide, kk.nx _ _ Hs1 _ hk (E1.change h1 g1 ⟨_, upd_same, ?_⟩) f1⟩
    exact .cons q3 y3
theorem ps1_pop (i : Nat) {x : Str} {px : Pos} {ds : List D} (h1 : ρ[i]? = some (.own (.lst ds))) (hz : 0 < ds.length) (hk : k.nx (ρ.set i (.own (.lst (ds.take (ds.length - 1)))))) (hN : X.N[i]? = some x)
    (hv : Vis X.env.scope x) (hd : (x == ("__debug__" : Str)) = false) (hcd : (x == ("__classdict__" : Str)) = false)
    (hbase : attributeBase (.Name x px) "pop" X.env (eval (.Name x px) X.env) = eval (.Name x px) X.env)
    (hline : (apos.endLine == p.line) = true)
    (hsw : swapsWith (.Call (.Attribute (.Name x px) "pop" apos) [] [] p) none pos.line X.env = pure false) : PS1 X bi (.Expr (.Call (.Attribute (.Name x px) "pop" apos) [] [] p) pos) ρ k :=
  ps_imp (ps_expr (pe_bm0 PySem.F.plainAttrs_list PySem.F.slot_list_pop PySem.F.type_list_pop mt_pop (pe_var hN hv hd hcd) hbase hline) hsw) fun Z σ H ⟨io, Hf, Hs, hb, E, kk⟩ => by
    obtain ⟨a, vs, g1, g2, g3⟩ := own_lst E h1
    have hl := g3.length
    obtain ⟨y, hy⟩ : ∃ y, vs[vs.length - 1]? = some y := ⟨_, List.getElem?_eq_getElem (by omega)⟩
    refine ⟨_, g1, .inl ⟨rfl, _, SqL.of g2⟩, a, vs, y, rfl, rfl, g2, hy, kk.nx _ _ Hs _ hk (E.change h1 g1 ⟨_, upd_same, ?_⟩) ExF.refl⟩
    rw [List.dropLast_eq_take, ← hl]
    exact g3.take _
end
section
variable {X : Cx} {P : Program} {w : World} {K : PySem.W.Frag} {mg : Str → Option Value} {base : Heap} {N : List Str} {n : Nat} {bi : Bool} {ρ ρ1 ρ2 : Rho} {k : Kn} {p pos p1 p2 apos : Pos} {e0 e : Expr} {rest : List Stmt} {nm : Str} {i : Nat} {ds : List D} {d : D}
theorem a_neNilO (hx : Cxt X P w K mg base N n) (h0 : Slot N ρ nm i (.own (.lst ds))) (hk : 1 ≤ n := by decide)
    (hv : Vis X.env.scope nm := by first | exact Or.inl rfl | exact Or.inr (Or.inl rfl) | exact Or.inr (Or.inr rfl)) (hd : (nm == ("__debug__" : Str)) = false := by decide) (hcd : (nm == ("__classdict__" : Str)) = false := by decide) (hm : behindInMarks CmpOp.NotEq (.List [] p2) = false := by rfl) :
    PTD X (.Compare (.Name nm p) [.NotEq] [.List [] p2] pos) ρ (!decide (ds.length = 0)) ρ := by
  obtain ⟨q1, q2, q3, q4, q5, q6, _, _, room⟩ := hx
  subst q1 q2 q3 q4 q5 q6
  exact ptd_cmpO i h0.val h0.name (pd_still (pd_lst pad_nil)) h0.val (bd_neNilD room hk) hm hv hd hcd
theorem b_neNilD (hx : Cxt X P w K mg base N n) (hk : 1 ≤ n := by decide) : BinD X (compareOp .NotEq) (.lst ds) (.lst []) (.val (.bl (!decide (ds.length = 0)))) := by
  obtain ⟨q1, q2, q3, q4, q5, q6, _, _, room⟩ := hx
  exact bd_neNilD room hk
theorem b_eqNilD (hx : Cxt X P w K mg base N n) (hk : 1 ≤ n := by decide) : BinD X (compareOp .Eq) (.lst ds) (.lst []) (.val (.bl (decide (ds.length = 0)))) := by
  obtain ⟨q1, q2, q3, q4, q5, q6, _, _, room⟩ := hx
  exact bd_eqNilD room hk
theorem a_insert0 (hx : Cxt X P w K mg base N n) (h0 : ∃ d0, Slot N ρ nm i (.own (.lst d0))) (he : PAV X [e0, e] ρ [.int 0, d] ρ1) (h1 : Slot N ρ1 nm i (.own (.lst ds))) (hz : Side (ds.length ≤ 1000000)) (hp : Put N ρ1 nm i (.own (.lst (d :: ds))) ρ2) (hr : PSD X bi rest ρ2 k)
    (hv : Vis X.env.scope nm := by first | exact Or.inl rfl | exact Or.inr (Or.inl rfl) | exact Or.inr (Or.inr rfl)) (hd : (nm == ("__debug__" : Str)) = false := by decide) (hcd : (nm == ("__classdict__" : Str)) = false := by decide)
    (hbase : attributeBase (.Name nm p1) "insert" X.env (eval (.Name nm p1) X.env) = eval (.Name nm p1) X.env := by rfl)
    (hfew : ((backTo p (starEach [e0, e] X.env)).all (fun x => !x.1) && (backToKw p (keywordEach [] X.env)).all (fun x => x.1.isSome) && decide ([e0, e].length + ([] : List Keyword).length + (if ([] : List Keyword).isEmpty then 0 else 1) < 30)) = true := by rfl)
    (hline : (apos.endLine == p.line) = true := by rfl) (hs : starEach [e0, e] X.env = (false, eval e0 X.env) :: starEach [e] X.env := by rfl) (hplain : (backTo p (starEach [e] X.env)).any (·.1) = false := by rfl)
    (hsw : swapsWith (.Call (.Attribute (.Name nm p1) "insert" apos) [e0, e] [] p) none pos.line X.env = pure false := by rfl) : PSD X bi (.Expr (.Call (.Attribute (.Name nm p1) "insert" apos) [e0, e] [] p) pos :: rest) ρ k := by
  obtain ⟨d0, h0⟩ := h0
  exact psd_st (ps1_insert0 i he h1.val hz hp.eq ⟨d0, h0.val⟩ (hx.nm ▸ h1.name) hv hd hcd hbase hfew hline hs hplain hsw) hr
theorem a_pop (hx : Cxt X P w K mg base N n) (h1 : Slot N ρ nm i (.own (.lst ds))) (hz : Side (0 < ds.length)) (hp : Put N ρ nm i (.own (.lst (ds.take (ds.length - 1)))) ρ2) (hr : PSD X bi rest ρ2 k)
    (hv : Vis X.env.scope nm := by first | exact Or.inl rfl | exact Or.inr (Or.inl rfl) | exact Or.inr (Or.inr rfl)) (hd : (nm == ("__debug__" : Str)) = false := by decide) (hcd : (nm == ("__classdict__" : Str)) = false := by decide)
    (hbase : attributeBase (.Name nm p1) "pop" X.env (eval (.Name nm p1) X.env) = eval (.Name nm p1) X.env := by rfl)
    (hline : (apos.endLine == p.line) = true := by rfl)
    (hsw : swapsWith (.Call (.Attribute (.Name nm p1) "pop" apos) [] [] p) none pos.line X.env = pure false := by rfl) : PSD X bi (.Expr (.Call (.Attribute (.Name nm p1) "pop" apos) [] [] p) pos :: rest) ρ k :=
  psd_st (ps1_pop i h1.val hz hp.eq (hx.nm ▸ h1.name) hv hd hcd hbase hline hsw) hr
end
section
variable {X : Cx} {P : Program} {w : World} {K : PySem.W.Frag} {mg : Str → Option Value} {base : Heap} {N : List Str} {n : Nat} {ρ ρ1 : Rho} {xs ys : List D} {elts : List Expr} {kk : Nat} {tpos pos p : Pos} {e e2 : Expr}
theorem a_pZip (hx : Cxt X P w K mg base N n) (hm : mg "zip" = none) (ha : PAV X [e, e2] ρ [.lst xs, .lst ys] ρ1) (hg : Gl X "zip" := by rfl) (hs : starEach [e, e2] X.env = (false, eval e X.env) :: starEach [e2] X.env := by rfl) (hpl : (backTo pos (starEach [e2] X.env)).any (·.1) = false := by rfl) : PID X (.Tuple elts kk tpos) (.Call (.Name "zip" p) [e, e2] [] pos) ρ (List.zipWith (fun x y => D.tup [x, y]) xs ys) ρ1 :=
  pid_zip (hx.mod ▸ hm) ha hg hs hpl
theorem a_pEnum (hx : Cxt X P w K mg base N n) (hm : mg "enumerate" = none) (ha : PAV X [e] ρ [.lst xs] ρ1) (hg : Gl X "enumerate" := by rfl) (hs : starEach [e] X.env = [(false, eval e X.env)] := by rfl) : PID X (.Tuple elts kk tpos) (.Call (.Name "enumerate" p) [e] [] pos) ρ (List.zipWith (fun x y => D.tup [x, y]) (rng 0 xs.length) xs) ρ1 :=
  pid_enum (hx.mod ▸ hm) ha hg hs
end
section
variable {X : Cx} {P : Program} {w : World} {K : PySem.W.Frag} {mg : Str → Option Value} {base : Heap} {N : List Str} {n : Nat} {scope : Scope} {elt iter : Expr} {n1 n2 nm : Str} {m1 m2 m : Nat} {ρ ρ1 ρa M : Rho} {xs : List D} {s s1 s2 : Sl} {p p1 p2 tp pos : Pos} {kk : Nat}
theorem a_lcC (ys : List D) (hx : Cxt X P w K mg base N n) (hi : PID X (.Name nm p) iter ρ xs ρ1) (ht : Slot N ρ1 nm m s) (h0 : Put N ρ1 nm m .non M) (hm : m ≠ 0) (ok : BlkOk X.N X.env.scope scope [(nm, m)]) (hl : Side (ys.length = xs.length)) (hz : Side (xs.length ≤ 1000000)) (he : EltOk X P w K mg base N n scope elt nm m xs ys (fun _ => M))
    (hg : ∀ (s : Shared) (H : Hp) (C : Addr) (cl : List (Str × Addr)) (fp : List Addr), Loc (bk X scope s H C cl fp).env.scope nm ∧ ((bk X scope s H C cl fp).fn nm = true ∨ (bk X scope s H C cl fp).env.scope.names.lookup nm = some .local) := by exact fun _ _ _ _ _ => ⟨by first | exact Or.inl rfl | exact Or.inr rfl, by first | exact .inl rfl | exact .inr rfl⟩) (hs : ∀ x, foldedSetIterable iter X.env x = pure x := by intro _; rfl) : PD X (.ListComp elt [⟨.Name nm p, iter, [], 0⟩] scope pos) ρ (.own (.lst ys)) M :=
  a_lcN ys (fun _ => M) M hx hi ht h0 hm ok hl hz rfl he hg hs
end
section
variable {X : Cx} {bi : Bool} {ρ ρ1 ρ2 ρ3 ρ4 : Rho} {k : Kn} {pos : Pos} {a b : Expr} {rest : List Stmt}
variable {P : Program} {w : World} {K : PySem.W.Frag} {mg : Str → Option Value} {base : Heap} {N : List Str} {n : Nat}
/-- x = e, what is new is from here on data -/
theorem a_setV {e : Expr} {nm : Str} {p : Pos} {i : Nat} {d : D} (hx : Cxt X P w K mg base N n) (he : PDV X e ρ d ρ1) (hp : Put N ρ1 nm i (.val d) ρ2) (hio : i ≠ 0 ∨ bi = false) (hr : PSD X bi rest ρ2 k) (hl : Loc X.env.scope nm := by first | exact Or.inl rfl | exact Or.inr rfl) (hsw : swapsWith e (some (.Name nm p)) pos.line X.env = pure false := by rfl)
    (hf : X.fn nm = true ∨ X.env.scope.names.lookup nm = some .local := by first | exact .inl rfl | exact .inr rfl) : PSD X bi (.Assign [.Name nm p] e pos :: rest) ρ k :=
  a_set hx he .v hp hio hr hl hsw hf
end
end Dn
end
section
set_option Elab.async false
set_option linter.all false
set_option maxRecDepth 100000
set_option maxHeartbeats 2000000
/-! DMore5: all([..]) with any answers, is / is not True, None in a list of data. -/
namespace Dn
open PySem PySem.Spec L2
end Dn
namespace Dn
open PySem PySem.Spec L2
end Dn
end
section
set_option Elab.async false
set_option linter.all false
set_option maxRecDepth 100000
set_option maxHeartbeats 4000000
set_option exponentiation.threshold 10000
namespace Dn
open PySem PySem.Spec L2
/-! DSix: sizes by sixths, z / 6 ^ k, z below 2 ^ m. -/
theorem divInt_add' (a b c : Int) (hc : c ≠ 0) : Rat.divInt (a + b) c = Rat.divInt a c + Rat.divInt b c := by
  rw [Rat.divInt_eq_div, Rat.divInt_eq_div, Rat.divInt_eq_div, Rat.intCast_add]
  grind
theorem divInt_mul' (a b c d : Int) : Rat.divInt (a * b) (c * d) = Rat.divInt a c * Rat.divInt b d := (Rat.divInt_mul_divInt _ _).symm
theorem trim_mem {l : List Rat} {x : Rat} (h : x ∈ trim l) : x ∈ l := List.mem_of_mem_take h
theorem ofF_mem {n : Nat} {g : Cf} {x : Rat} (h : x ∈ ofF n g) : ∃ i, i < n ∧ x = g i := by
  unfold ofF at h
  obtain ⟨i, hi, rfl⟩ := List.mem_map.mp h
  exact ⟨i, List.mem_range.mp hi, rfl⟩
theorem trim_le (l : List Rat) : (trim l).length ≤ l.length := by
  rw [trim_len]
  exact cnt_le _ _
def Qb (k m : Nat) (x : Rat) : Prop := ∃ z : Int, x = Rat.divInt z (6 ^ k) ∧ Bd m z
theorem six_ne (k : Nat) : (6 : Int) ^ k ≠ 0 := by
  have : (0 : Int) < 6 ^ k := Int.pow_pos (by decide)
  omega
theorem six_bd : ∀ k : Nat, Bd (3 * k + 1) ((6 : Int) ^ k)
  | 0 => by unfold Bd; decide
  | k + 1 => by
    rw [Int.pow_succ]
    exact ((six_bd k).mul (n := 3) (by unfold Bd; decide)).mono (by omega)
theorem Qb.mono {k m n : Nat} {x : Rat} (h : Qb k m x) (l : m ≤ n) : Qb k n x := by
  obtain ⟨z, h1, h2⟩ := h
  exact ⟨z, h1, h2.mono l⟩
theorem Qb.add {k m : Nat} {x y : Rat} (h : Qb k m x) (q : Qb k m y) : Qb k (m + 1) (x + y) := by
  obtain ⟨z, rfl, h2⟩ := h
  obtain ⟨u, rfl, q2⟩ := q
  exact ⟨z + u, (divInt_add' _ _ _ (six_ne k)).symm, h2.add q2⟩
theorem Qb.mul {k l m n : Nat} {x y : Rat} (h : Qb k m x) (q : Qb l n y) : Qb (k + l) (m + n) (x * y) := by
  obtain ⟨z, rfl, h2⟩ := h
  obtain ⟨u, rfl, q2⟩ := q
  refine ⟨z * u, ?_, h2.mul q2⟩
  rw [Int.pow_add]
  exact Rat.divInt_mul_divInt _ _
theorem Qb.zero {k m : Nat} : Qb k m 0 := ⟨0, by simp, by unfold Bd; exact Nat.pow_pos (by decide)⟩
theorem Qb.up {k m : Nat} {x : Rat} (h : Qb k m x) (d : Nat) : Qb (k + d) (m + (3 * d + 1)) x := by
  obtain ⟨z, rfl, h2⟩ := h
  refine ⟨z * 6 ^ d, ?_, h2.mul (six_bd d)⟩
  rw [Int.pow_add, divInt_mul']
  have : Rat.divInt ((6 : Int) ^ d) (6 ^ d) = 1 := by
    rw [Rat.divInt_self']
    exact six_ne d
  rw [this, Rat.mul_one]
theorem Qb.neg {k m : Nat} {x : Rat} (h : Qb k m x) : Qb k m (-x) := by
  obtain ⟨z, rfl, h2⟩ := h
  exact ⟨-z, by rw [Rat.neg_divInt], h2.neg⟩
theorem den_divInt_dvd (z : Int) {n : Nat} (hn : 0 < n) : (Rat.divInt z (n : Int)).den ∣ n := by
  rw [Rat.den_divInt, if_neg (by omega)]
  exact Nat.div_dvd_of_dvd (by
    have h : ((Int.gcd (n : Int) z : Nat) : Int) ∣ (n : Int) := Int.gcd_dvd_left ..
    have h2 := Int.natCast_dvd_natCast.mp h
    simpa using h2)
theorem Qb.den {k m : Nat} {x : Rat} (h : Qb k m x) : x.den ∣ 6 ^ k := by
  obtain ⟨z, rfl, h2⟩ := h
  have e : (6 : Int) ^ k = ((6 ^ k : Nat) : Int) := by simp
  rw [e]
  exact den_divInt_dvd z (Nat.pow_pos (by decide))
theorem Qb.sz {k m n : Nat} {x : Rat} (h : Qb k m x) (h1 : m ≤ n) (h2 : 3 * k + 1 ≤ n) : Sz n x := by
  obtain ⟨z, rfl, hz⟩ := h
  exact sz_divInt (six_ne k) (hz.mono h1) ((six_bd k).mono h2)
theorem qb_cf {k m : Nat} {l : List Rat} (h : ∀ x ∈ l, Qb k m x) (i : Nat) : Qb k m (cf l i) := by
  by_cases q : i < l.length
  · rw [cf_lt q]
    exact h _ (List.getElem_mem q)
  · rw [cf_ge (by omega)]
    exact Qb.zero
theorem qb_conv {k l m n : Nat} : ∀ (f g : Cf) (i : Nat), (∀ j, Qb k m (f j)) → (∀ j, Qb l n (g j)) → Qb (k + l) (m + n + i) (conv f g i)
  | f, g, 0, hf, hg => (hf 0).mul (hg 0)
  | f, g, i + 1, hf, hg => by
    have a : Qb (k + l) (m + n + i) (f 0 * g (i + 1)) := ((hf 0).mul (hg (i + 1))).mono (by omega)
    exact a.add (qb_conv (sh f) g i (fun j => hf (j + 1)) hg)
theorem qb_pMul {k l m n : Nat} {xs ys : List Rat} (h : ∀ x ∈ xs, Qb k m x) (q : ∀ y ∈ ys, Qb l n y) {s : Nat} (hx : xs.length + ys.length ≤ s + 1) : ∀ z ∈ pMul xs ys, Qb (k + l) (m + n + s) z := fun z hz => by
  obtain ⟨i, hi, rfl⟩ := ofF_mem (trim_mem hz)
  exact (qb_conv _ _ i (qb_cf h) (qb_cf q)).mono (by omega)
theorem qb_pAdd {k m : Nat} {xs ys : List Rat} (h : ∀ x ∈ xs, Qb k m x) (q : ∀ y ∈ ys, Qb k m y) : ∀ z ∈ pAdd xs ys, Qb k (m + 1) z := fun z hz => by
  obtain ⟨i, hi, rfl⟩ := ofF_mem (trim_mem hz)
  exact (qb_cf h i).add (qb_cf q i)
theorem pMul_len (l m : List Rat) : (pMul l m).length ≤ l.length + m.length - 1 := by
  unfold pMul
  rw [trim_len]
  exact Nat.le_trans (cnt_le _ _) (by rw [ofF_len]; exact Nat.le_refl _)
theorem pAdd_len (l m : List Rat) : (pAdd l m).length ≤ max l.length m.length := by
  unfold pAdd
  rw [trim_len]
  exact Nat.le_trans (cnt_le _ _) (by rw [ofF_len]; exact Nat.le_refl _)
end Dn
end
section
set_option Elab.async false
set_option linter.all false
set_option maxRecDepth 100000
set_option maxHeartbeats 2000000
namespace Dn
open PySem PySem.Spec L2
/-! DMore7: x, y = a, b where b stays owned. -/
section
variable {X : Cx} {bi : Bool} {ρ ρ1 ρ2 ρ3 ρ4 : Rho} {k : Kn} {pos : Pos} {a b : Expr} {rest : List Stmt}
theorem ps1_parVO {x y : Str} {px py pt : Pos} {kt k2 : Nat} {pt2 : Pos} {d : D} {r : Res} (i j : Nat) (ha : PD X a ρ (.val d) ρ1) (hb : PD X b ρ1 r ρ2) (hN : X.N.Nodup) (hk : k.nx ((ρ2.set i (.val d)).set j r.sl)) (hi : X.N[i]? = some x) (hj : X.N[j]? = some y) (hij : i ≠ j)
    (hx : X.env.scope.names.lookup x = some .local) (hy : X.env.scope.names.lookup y = some .local) (hio : (i ≠ 0 ∧ j ≠ 0) ∨ bi = false) (hc : X.calm = true)
    (hw : swappedStores [.Tuple [.Name x px, .Name y py] kt pt] (.Tuple [a, b] k2 pt2) X.env = pure (some [x, y]))
    (hs : swapsWithSole [.Tuple [.Name x px, .Name y py] kt pt] (.Tuple [a, b] k2 pt2) pos.line X.env = pure false)
    (h1 : starEach [a, b] X.env = (false, eval a X.env) :: starEach [b] X.env) (h2 : starEach [b] X.env = (false, eval b X.env) :: starEach [] X.env) : PS1 X bi (.Assign [.Tuple [.Name x px, .Name y py] kt pt] (.Tuple [a, b] k2 pt2) pos) ρ k :=
  ps_imp (ps_par hc hN hi hj hij hx hy (pa_cons ha (pa_cons hb pa_nil h2) h1) hw hs) fun Z σ H ⟨io, Hf, Hs, hb0, E, kk⟩ => ⟨io, Hf, Hs, E, fun v Hs1 H1 E1 f1 q1 => by
    refine ⟨io, Hf, Hs1, E1, fun v' Hs2 H2 E2 f2 q2 => ?_⟩
    have g : ∀ m, (m ≠ 0 ∨ bi = false) → m ≠ 0 ∨ io = none := fun m z => z.imp_right hb0
    have q1 : Den X.K Hs1 v d := q1
    have e := (E2.setr q2 (i := j) (g _ (hio.imp_left And.right))).setv (i := i) (Den.mono f2.ex q1) (g _ (hio.imp_left And.left))
    rw [List.set_comm _ _ (Ne.symm hij), List.set_comm _ _ (Ne.symm hij)] at e
    exact ⟨v, v', rfl, kk.nx _ _ Hs2 H2 hk e (f1.trans f2)⟩⟩
variable {P : Program} {w : World} {K : PySem.W.Frag} {mg : Str → Option Value} {base : Heap} {N : List Str} {n : Nat}
theorem a_parVO {x y : Str} {px py pt : Pos} {kt k2 : Nat} {pt2 : Pos} {d : D} {r : Res} {s1 : Sl} {i j : Nat} (hx : Cxt X P w K mg base N n) (ha : PDV X a ρ d ρ1) (hb : PD X b ρ1 r ρ2) (hsl : SlOf r s1) (p1 : Put N ρ2 x i (.val d) ρ3) (p2 : Put N ρ3 y j s1 ρ4) (hij : i ≠ j) (hio : (i ≠ 0 ∧ j ≠ 0) ∨ bi = false) (hr : PSD X bi rest ρ4 k)
    (hl1 : X.env.scope.names.lookup x = some .local := by rfl) (hl2 : X.env.scope.names.lookup y = some .local := by rfl)
    (hw : swappedStores [.Tuple [.Name x px, .Name y py] kt pt] (.Tuple [a, b] k2 pt2) X.env = pure (some [x, y]) := by rfl)
    (hs : swapsWithSole [.Tuple [.Name x px, .Name y py] kt pt] (.Tuple [a, b] k2 pt2) pos.line X.env = pure false := by rfl)
    (h1 : starEach [a, b] X.env = (false, eval a X.env) :: starEach [b] X.env := by rfl) (h2 : starEach [b] X.env = (false, eval b X.env) :: starEach [] X.env := by rfl) : PSD X bi (.Assign [.Tuple [.Name x px, .Name y py] kt pt] (.Tuple [a, b] k2 pt2) pos :: rest) ρ k :=
  psd_st (ps1_parVO i j ha hb (hx.nm ▸ hx.nd) (by rw [hsl.eq, p1.eq, p2.eq]) (hx.nm ▸ p1.name) (hx.nm ▸ p2.name) hij hl1 hl2 hio hx.calm hw hs h1 h2) hr
end
end Dn
end
section
set_option Elab.async false
set_option linter.all false
set_option maxRecDepth 100000
set_option maxHeartbeats 2000000
/-! DEq3: == and != of tuples whose items may hold instances of own classes. -/
namespace Dn
open PySem PySem.Spec L2
section
open PySem.SeqAt
open AutoSeq1 (wpAny_loadPart')
open MeetsSeq MeetsSeq2 MeetsSeq3 SeqRoads2
variable {prog : Program} {w : World} {A : Around} {R : Result → Shared → Prop}
theorem tup_eq2 {items items2 : Array Value} {n n2 : Nat} {dd dd2 : Option Addr} {sl sl2 : Array (Option Value)} (l b : Addr) (N : Nat) (bs ans : Nat → Bool) (I : Nat → Shared → Prop) (z1 : items.size = N) (z2 : items2.size = N)
    (turn : ∀ i s, I i s → ∀ (h1 : i < items.size) (h2 : i < items2.size), wpAny (model prog w) A.in1 (eqBool items[i] items2[i]) (fun r s' => r = bs i ∧ I (i + 1) s') (fun e s' => R (.error e) s') s)
    (a0 : ans N = true) (a1 : ∀ i, i < N → ans i = (bs i && ans (i + 1))) (fin : ∀ i s, I i s → R (.ok (.ret (.bool (ans 0)))) s) {s : Shared} (h : I 0 s)
    (hl : s.heap.get? l = some { cls := .type "tuple", dict := dd, data := .seq items n, slots := sl }) (hb : s.heap.get? b = some { cls := .type "tuple", dict := dd2, data := .seq items2 n2, slots := sl2 }) :
    wpAny (model prog w) A.in1 (Builtin.«tuple.__eq__» ⟨[.ref l, .ref b], []⟩) (GQ.FinOf prog w A R) (fun e s' => R (.error e) s') s := by
  obtain ⟨hp, g, d, tk, os⟩ := s
  have f2 := AutoSeq1.sub_tuple_tuple
  have hZ : (items.toList.zip items2.toList).length = N := by simp [z1, z2]
  wp_walk using wpAny_loadPart' hl, wpAny_loadPart' hb, wpAny_forIn_list _ (fun rest b s' => b.1 = none ∧ ∃ i, rest = (items.toList.zip items2.toList).drop i ∧ i ≤ N ∧ ans i = ans 0 ∧ I i s') _
  case turn =>
    rintro ⟨y, x⟩ rest b s' ⟨hb', i, hz, hi, hq, hI⟩
    have hlt : i < (items.toList.zip items2.toList).length := by
      rcases Nat.lt_or_ge i (items.toList.zip items2.toList).length with h' | h'
      · exact h'
      · rw [List.drop_of_length_le h'] at hz; cases hz
    have h1 : i < items.size := by omega
    have h2 : i < items2.size := by omega
    rw [List.drop_eq_getElem_cons hlt] at hz
    injection hz with hyx hrest
    have hy : y = items[i] := by have := congrArg Prod.fst hyx; simpa using this
    have hx : x = items2[i] := by have := congrArg Prod.snd hyx; simpa using this
    subst hy hx
    refine wpAny_bind (wpAny_mono (turn i s' hI h1 h2) (fun r s2 q => ?_) fun _ _ q => q)
    obtain ⟨rfl, hI2⟩ := q
    have ai := a1 i (by omega)
    cases hy : bs i with
    | true =>
      rw [hy] at ai
      wp_walk
      exact ⟨rfl, i + 1, hrest, by omega, by rw [← hq, ai]; rfl, hI2⟩
    | false =>
      rw [hy] at ai
      have := fin _ _ hI2
      rw [← hq, ai] at this
      wp_walk
      exact this
  case fin =>
    rintro ⟨b1, b2⟩ s' ⟨hb', i, hz, hi, hq, hI⟩
    simp only at hb'
    subst hb'
    have hge : N ≤ i := by
      rcases Nat.lt_or_ge i (items.toList.zip items2.toList).length with h' | h'
      · rw [List.drop_eq_getElem_cons h'] at hz; cases hz
      · omega
    have e : i = N := by omega
    have := fin _ _ hI
    rw [← hq, e, a0] at this
    wp_walk
    have zz : Builtin.Tuple.tupleCompareSizes CmpOp.Eq items.size items2.size = Value.bool true := by simp [Builtin.Tuple.tupleCompareSizes, z1, z2]
    rw [zz]
    exact this
  case h =>
    exact ⟨rfl, 0, rfl, by omega, rfl, h⟩
theorem tup_ne2 {items items2 : Array Value} {n n2 : Nat} {dd dd2 : Option Addr} {sl sl2 : Array (Option Value)} (l b : Addr) (N : Nat) (bs ans : Nat → Bool) (I : Nat → Shared → Prop) (z1 : items.size = N) (z2 : items2.size = N)
    (turn : ∀ i s, I i s → ∀ (h1 : i < items.size) (h2 : i < items2.size), wpAny (model prog w) A.in1 (eqBool items[i] items2[i]) (fun r s' => r = bs i ∧ I (i + 1) s') (fun e s' => R (.error e) s') s)
    (a0 : ans N = true) (a1 : ∀ i, i < N → ans i = (bs i && ans (i + 1))) (fin : ∀ i s, I i s → R (.ok (.ret (.bool (!ans 0)))) s) {s : Shared} (h : I 0 s)
    (hl : s.heap.get? l = some { cls := .type "tuple", dict := dd, data := .seq items n, slots := sl }) (hb : s.heap.get? b = some { cls := .type "tuple", dict := dd2, data := .seq items2 n2, slots := sl2 }) :
    wpAny (model prog w) A.in1 (Builtin.«tuple.__ne__» ⟨[.ref l, .ref b], []⟩) (GQ.FinOf prog w A R) (fun e s' => R (.error e) s') s := by
  obtain ⟨hp, g, d, tk, os⟩ := s
  have f2 := AutoSeq1.sub_tuple_tuple
  have hZ : (items.toList.zip items2.toList).length = N := by simp [z1, z2]
  wp_walk using wpAny_loadPart' hl, wpAny_loadPart' hb, wpAny_forIn_list _ (fun rest b s' => b.1 = none ∧ ∃ i, rest = (items.toList.zip items2.toList).drop i ∧ i ≤ N ∧ ans i = ans 0 ∧ I i s') _
  case turn =>
    rintro ⟨y, x⟩ rest b s' ⟨hb', i, hz, hi, hq, hI⟩
    have hlt : i < (items.toList.zip items2.toList).length := by
      rcases Nat.lt_or_ge i (items.toList.zip items2.toList).length with h' | h'
      · exact h'
      · rw [List.drop_of_length_le h'] at hz; cases hz
    have h1 : i < items.size := by omega
    have h2 : i < items2.size := by omega
    rw [List.drop_eq_getElem_cons hlt] at hz
    injection hz with hyx hrest
    have hy : y = items[i] := by have := congrArg Prod.fst hyx; simpa using this
    have hx : x = items2[i] := by have := congrArg Prod.snd hyx; simpa using this
    subst hy hx
    refine wpAny_bind (wpAny_mono (turn i s' hI h1 h2) (fun r s2 q => ?_) fun _ _ q => q)
    obtain ⟨rfl, hI2⟩ := q
    have ai := a1 i (by omega)
    cases hy : bs i with
    | true =>
      rw [hy] at ai
      wp_walk
      exact ⟨rfl, i + 1, hrest, by omega, by rw [← hq, ai]; rfl, hI2⟩
    | false =>
      rw [hy] at ai
      have := fin _ _ hI2
      rw [← hq, ai] at this
      wp_walk
      exact this
  case fin =>
    rintro ⟨b1, b2⟩ s' ⟨hb', i, hz, hi, hq, hI⟩
    simp only at hb'
    subst hb'
    have hge : N ≤ i := by
      rcases Nat.lt_or_ge i (items.toList.zip items2.toList).length with h' | h'
      · rw [List.drop_eq_getElem_cons h'] at hz; cases hz
      · omega
    have e : i = N := by omega
    have := fin _ _ hI
    rw [← hq, e, a0] at this
    wp_walk
    have zz : Builtin.Tuple.tupleCompareSizes CmpOp.NotEq items.size items2.size = Value.bool false := by simp [Builtin.Tuple.tupleCompareSizes, z1, z2]
    rw [zz]
    exact this
  case h =>
    exact ⟨rfl, 0, rfl, by omega, rfl, h⟩
/-- at each turn the i-th items are compared -/
def TurnT (prog : Program) (w : World) (A : Around) (E : Value → Shared → Prop) (items items2 : Array Value) (bs : Nat → Bool) (I : Nat → Shared → Prop) : Prop :=
  ∀ i s, I i s → ∀ (h1 : i < items.size) (h2 : i < items2.size), wpAny (model prog w) A.in1 (eqBool items[i] items2[i]) (fun r s' => r = bs i ∧ I (i + 1) s') E s
theorem rct_eq2 {E : Value → Shared → Prop} {l b : Addr} {N : Nat} {bs ans : Nat → Bool} {Q : Value → Shared → Prop} {items items2 : Array Value} {n n2 : Nat} {dd dd2 : Option Addr} {sl sl2 : Array (Option Value)} (hu : A.units < cLine) (I : Nat → Shared → Prop) (z1 : items.size = N) (z2 : items2.size = N) (hT : TurnT prog w A E items items2 bs I) (a0 : ans N = true) (a1 : ∀ i, i < N → ans i = (bs i && ans (i + 1))) (fin : ∀ i s, I i s → Q (.bool (ans 0)) s) {s : Shared} (h : I 0 s)
    (hl : s.heap.get? l = some { cls := .type "tuple", dict := dd, data := .seq items n, slots := sl }) (hb : s.heap.get? b = some { cls := .type "tuple", dict := dd2, data := .seq items2 n2, slots := sl2 }) : wpAny (model prog w) A (richCompare .Eq (.ref l) (.ref b)) Q E s := by
  refine wpAny_richCompare_same_room (T := "tuple") (op := .Eq) ⟨_, hl, rfl⟩ ⟨_, hb, rfl⟩ F.slot_tuple_eq (GQ.call_here F.slot_tuple_eq ⟨_, hl, rfl⟩ F.entry_tuple_eq (F.args_tuple_eq_2 _ _) ?_) hu
  exact tup_eq2 (R := wants (fun v s' => v ≠ .notImplemented ∧ Q v s') E) l b N bs ans I z1 z2 hT a0 a1 (fun i s' q => ⟨(fun x => nomatch x), fin i s' q⟩) h hl hb
theorem rct_ne2 {E : Value → Shared → Prop} {l b : Addr} {N : Nat} {bs ans : Nat → Bool} {Q : Value → Shared → Prop} {items items2 : Array Value} {n n2 : Nat} {dd dd2 : Option Addr} {sl sl2 : Array (Option Value)} (hu : A.units < cLine) (I : Nat → Shared → Prop) (z1 : items.size = N) (z2 : items2.size = N) (hT : TurnT prog w A E items items2 bs I) (a0 : ans N = true) (a1 : ∀ i, i < N → ans i = (bs i && ans (i + 1))) (fin : ∀ i s, I i s → Q (.bool (!ans 0)) s) {s : Shared} (h : I 0 s)
    (hl : s.heap.get? l = some { cls := .type "tuple", dict := dd, data := .seq items n, slots := sl }) (hb : s.heap.get? b = some { cls := .type "tuple", dict := dd2, data := .seq items2 n2, slots := sl2 }) : wpAny (model prog w) A (richCompare .NotEq (.ref l) (.ref b)) Q E s := by
  refine wpAny_richCompare_same_room (T := "tuple") (op := .NotEq) ⟨_, hl, rfl⟩ ⟨_, hb, rfl⟩ F.slot_tuple_ne (GQ.call_here F.slot_tuple_ne ⟨_, hl, rfl⟩ F.entry_tuple_ne (F.args_tuple_ne_2 _ _) ?_) hu
  exact tup_ne2 (R := wants (fun v s' => v ≠ .notImplemented ∧ Q v s') E) l b N bs ans I z1 z2 hT a0 a1 (fun i s' q => ⟨(fun x => nomatch x), fin i s' q⟩) h hl hb
end
section
variable {X : Cx} {k j : Nat}
theorem turnT_of {ds es : List D} {bs : List Bool} {A : Around} {E : Value → Shared → Prop} {pins : List (Addr × Obj)} {σ : L2.St} {H Hs : Hp} {xs ys : List V} {its its2 : List Value} (h : EqDs X k ds es bs) (hr : Room (k + 1) A) (hf : A.frames = X.A.frames) (e : Ex Hs H) (da : Dens X.K Hs xs ds) (db : Dens X.K Hs ys es) (rv : Vals xs its) (rv2 : Vals ys its2) :
    TurnT X.prog X.w A E its.toArray its2.toArray (fun i => bs.getD i true) (fun _ s' => ∃ H', Inv X pins σ H' s' ∧ Ex H H') := by
  rintro i s' ⟨H', I', ex⟩ h1 h2
  have i1 : i < ds.length := by rw [← da.length, rv.length]; simpa using h1
  have i2 : i < es.length := by rw [← db.length, rv2.length]; simpa using h2
  obtain ⟨x, hx, dx⟩ := da.get (List.getElem?_eq_getElem i1)
  obtain ⟨y, hy, dy⟩ := db.get (List.getElem?_eq_getElem i2)
  obtain ⟨bb, hbb, hq⟩ := h.get (List.getElem?_eq_getElem i1) (List.getElem?_eq_getElem i2)
  obtain ⟨u, hu, ru⟩ := rv.get hx
  obtain ⟨v, hv, rw2⟩ := rv2.get hy
  have eu : its.toArray[i] = u := by
    have q : its[i]? = some its.toArray[i] := by
      have : i < its.length := by simpa using h1
      rw [List.getElem?_eq_getElem this]
      simp
    rw [hu] at q
    exact (Option.some.inj q).symm
  have ev : its2.toArray[i] = v := by
    have q : its2[i]? = some its2.toArray[i] := by
      have : i < its2.length := by simpa using h2
      rw [List.getElem?_eq_getElem this]
      simp
    rw [hv] at q
    exact (Option.some.inj q).symm
  rw [eu, ev]
  refine wpAny_mono (hq A.in1 pins σ H' Hs s' x y u v E hr.in1 hf I' (e.trans ex) dx dy ru rw2) (fun r s2 z => ?_) fun _ _ z => z
  obtain ⟨rfl, H2, I2, ex2⟩ := z
  exact ⟨by show r = bs.getD i true; rw [List.getD_eq_getElem?_getD, hbb]; rfl, ⟨H2, I2, ex.trans ex2⟩⟩
/-- (..) == (..), (..) != (..) -/
theorem bd_eqT {ds es : List D} {bs : List Bool} (h : EqDs X k ds es bs) (hr : Room j X.A) (hk : k + 1 ≤ j := by decide) : BinD X (compareOp .Eq) (.tup ds) (.tup es) (.val (.bl (bs.all id))) := by
  intro pins s σ H x y v u Q I r1 r2 ⟨Hs, e, d1, d2, kq⟩
  cases d1 with
  | @tup a xs _ ha da =>
    cases d2 with
    | @tup a' ys _ ha' db =>
      cases r1
      cases r2
      obtain ⟨a0, a1⟩ := all_from bs
      obtain ⟨l1, l2⟩ := h.len
      have room : Room (k + 1) X.A := hr.mono hk
      obtain ⟨_, its, rv, ⟨⟨cls, dd, data, sl⟩, za, hc, n, hd⟩⟩ : _ ≤ sizeLine ∧ ∃ its : List Value, Vals xs its ∧ PyProof.Rows.IsTup s.heap a its.toArray := I.hok _ _ (e _ _ ha)
      obtain ⟨_, its2, rv2, ⟨⟨cls2, dd2, data2, sl2⟩, zb, hc2, n2, hd2⟩⟩ : _ ≤ sizeLine ∧ ∃ its : List Value, Vals ys its ∧ PyProof.Rows.IsTup s.heap a' its.toArray := I.hok _ _ (e _ _ ha')
      simp only at hc hd hc2 hd2
      subst hc hd hc2 hd2
      show wpAny _ _ (richCompare .Eq (.ref a) (.ref a')) _ _ _
      refine rct_eq2 (N := bs.length) (bs := fun i => bs.getD i true) (ans := fun i => (bs.drop i).all id) room.units0 (fun _ s' => ∃ H', Inv X pins σ H' s' ∧ Ex H H') (by rw [List.size_toArray, ← rv.length, da.length, l1]) (by rw [List.size_toArray, ← rv2.length, db.length, l2]) (turnT_of h room rfl e da db rv rv2) a0 a1 (fun i s' z => ?_) ⟨H, I, Ex.refl _⟩ za zb
      obtain ⟨H', I', ex⟩ := z
      exact ⟨.bl _, H', I', rfl, kq _ Hs H' (gr_of e ex) (.bl _)⟩
theorem bd_neT {ds es : List D} {bs : List Bool} (h : EqDs X k ds es bs) (hr : Room j X.A) (hk : k + 1 ≤ j := by decide) : BinD X (compareOp .NotEq) (.tup ds) (.tup es) (.val (.bl (!bs.all id))) := by
  intro pins s σ H x y v u Q I r1 r2 ⟨Hs, e, d1, d2, kq⟩
  cases d1 with
  | @tup a xs _ ha da =>
    cases d2 with
    | @tup a' ys _ ha' db =>
      cases r1
      cases r2
      obtain ⟨a0, a1⟩ := all_from bs
      obtain ⟨l1, l2⟩ := h.len
      have room : Room (k + 1) X.A := hr.mono hk
      obtain ⟨_, its, rv, ⟨⟨cls, dd, data, sl⟩, za, hc, n, hd⟩⟩ : _ ≤ sizeLine ∧ ∃ its : List Value, Vals xs its ∧ PyProof.Rows.IsTup s.heap a its.toArray := I.hok _ _ (e _ _ ha)
      obtain ⟨_, its2, rv2, ⟨⟨cls2, dd2, data2, sl2⟩, zb, hc2, n2, hd2⟩⟩ : _ ≤ sizeLine ∧ ∃ its : List Value, Vals ys its ∧ PyProof.Rows.IsTup s.heap a' its.toArray := I.hok _ _ (e _ _ ha')
      simp only at hc hd hc2 hd2
      subst hc hd hc2 hd2
      show wpAny _ _ (richCompare .NotEq (.ref a) (.ref a')) _ _ _
      refine rct_ne2 (N := bs.length) (bs := fun i => bs.getD i true) (ans := fun i => (bs.drop i).all id) room.units0 (fun _ s' => ∃ H', Inv X pins σ H' s' ∧ Ex H H') (by rw [List.size_toArray, ← rv.length, da.length, l1]) (by rw [List.size_toArray, ← rv2.length, db.length, l2]) (turnT_of h room rfl e da db rv rv2) a0 a1 (fun i s' z => ?_) ⟨H, I, Ex.refl _⟩ za zb
      obtain ⟨H', I', ex⟩ := z
      exact ⟨.bl _, H', I', rfl, kq _ Hs H' (gr_of e ex) (.bl _)⟩
end
end Dn
end
section
set_option maxRecDepth 100000
open PySem PySem.Spec L2 Dn
local macro_rules | `(tactic| ac_rfl) => `(tactic| (exact ToV.v))
local macro_rules | `(tactic| ac_rfl) => `(tactic| ((with_reducible first | change Rho | change D | change Res | change List D | change Int | change Bool | change Nat | change Sl | change Str | change List Rat | change Rat | change Value | change Addr | change List (Str × D) | change Option Int); rotate_left; (try ((with_reducible first | change Rho | change D | change Res | change List D | change Int | change Bool | change Nat | change Sl | change Str | change List Rat | change Rat | change Value | change Addr | change List (Str × D) | change Option Int); rotate_left)); (try ((with_reducible first | change Rho | change D | change Res | change List D | change Int | change Bool | change Nat | change Sl | change Str | change List Rat | change Rat | change Value | change Addr | change List (Str × D) | change Option Int); rotate_left)); (try ((with_reducible first | change Rho | change D | change Res | change List D | change Int | change Bool | change Nat | change Sl | change Str | change List Rat | change Rat | change Value | change Addr | change List (Str × D) | change Option Int); rotate_left)); (try ((with_reducible first | change Rho | change D | change Res | change List D | change Int | change Bool | change Nat | change Sl | change Str | change List Rat | change Rat | change Value | change Addr | change List (Str × D) | change Option Int); rotate_left)); (try ((with_reducible first | change Rho | change D | change Res | change List D | change Int | change Bool | change Nat | change Sl | change Str | change List Rat | change Rat | change Value | change Addr | change List (Str × D) | change Option Int); rotate_left)); (try ((with_reducible first | change Rho | change D | change Res | change List D | change Int | change Bool | change Nat | change Sl | change Str | change List Rat | change Rat | change Value | change Addr | change List (Str × D) | change Option Int); rotate_left)); (try ((with_reducible first | change Rho | change D | change Res | change List D | change Int | change Bool | change Nat | change Sl | change Str | change List Rat | change Rat | change Value | change Addr | change List (Str × D) | change Option Int); rotate_left)); (try ((with_reducible first | change Rho | change D | change Res | change List D | change Int | change Bool | change Nat | change Sl | change Str | change List Rat | change Rat | change Value | change Addr | change List (Str × D) | change Option Int); rotate_left)); (try ((with_reducible first | change Rho | change D | change Res | change List D | change Int | change Bool | change Nat | change Sl | change Str | change List Rat | change Rat | change Value | change Addr | change List (Str × D) | change Option Int); rotate_left)); (try ((with_reducible first | change Rho | change D | change Res | change List D | change Int | change Bool | change Nat | change Sl | change Str | change List Rat | change Rat | change Value | change Addr | change List (Str × D) | change Option Int); rotate_left)); (try ((with_reducible first | change Rho | change D | change Res | change List D | change Int | change Bool | change Nat | change Sl | change Str | change List Rat | change Rat | change Value | change Addr | change List (Str × D) | change Option Int); rotate_left)); (try ((with_reducible first | change Rho | change D | change Res | change List D | change Int | change Bool | change Nat | change Sl | change Str | change List Rat | change Rat | change Value | change Addr | change List (Str × D) | change Option Int); rotate_left)); (try ((with_reducible first | change Rho | change D | change Res | change List D | change Int | change Bool | change Nat | change Sl | change Str | change List Rat | change Rat | change Value | change Addr | change List (Str × D) | change Option Int); rotate_left)); (try ((with_reducible first | change Rho | change D | change Res | change List D | change Int | change Bool | change Nat | change Sl | change Str | change List Rat | change Rat | change Value | change Addr | change List (Str × D) | change Option Int); rotate_left)); fail_if_success (with_reducible first | change Rho | change D | change Res | change List D | change Int | change Bool | change Nat | change Sl | change Str | change List Rat | change Rat | change Value | change Addr | change List (Str × D) | change Option Int)))
local macro_rules | `(tactic| ac_rfl) => `(tactic| ((with_reducible change Exists _); (apply Exists.intro; (focus ((repeat (with_reducible first | exact Slot.z | apply Slot.s)); done)))))
local macro_rules | `(tactic| ac_rfl) => `(tactic| ((with_reducible change (_ ≠ _ ∧ _ ≠ _ ∧ _ ≠ _)); decide))
local macro_rules | `(tactic| ac_rfl) => `(tactic| ((with_reducible change (_ ≠ _)); decide))
local macro_rules | `(tactic| ac_rfl) => `(tactic| ((with_reducible change ((_ ≠ 0 ∧ _) ∨ _ = false)); first | exact Or.inl (by decide) | exact Or.inr rfl))
local macro_rules | `(tactic| ac_rfl) => `(tactic| ((with_reducible change (_ ≠ 0 ∨ _ = false)); first | exact Or.inl (by decide) | exact Or.inr rfl))
local macro_rules | `(tactic| ac_rfl) => `(tactic| ((with_reducible change IfG _ _ _ _ _ _ _ _); (first | refine ifg_t (by refine side_i ?_; (first | assumption | exact rfl | exact ⟨rfl, rfl⟩ | exact ⟨_, rfl⟩ | exact ⟨_, _, rfl⟩ | exact Nat.le_of_ble_eq_true rfl | eq_refl | exact decide_eq_true rfl | exact decide_eq_true (by assumption) | exact decide_eq_false (by assumption) | decide | omega | exact decide_eq_true (by omega) | exact decide_eq_false (by omega) | (simp only [List.length_map, rng_len, List.length_reverse, List.length_append, List.length_cons, List.length_nil, List.length_set, List.length_replicate]; omega))) ?_ | refine ifg_f (by refine side_i ?_; (first | assumption | exact rfl | exact ⟨rfl, rfl⟩ | exact ⟨_, rfl⟩ | exact ⟨_, _, rfl⟩ | exact Nat.le_of_ble_eq_true rfl | eq_refl | exact decide_eq_true rfl | exact decide_eq_true (by assumption) | exact decide_eq_false (by assumption) | decide | omega | exact decide_eq_true (by omega) | exact decide_eq_false (by omega) | (simp only [List.length_map, rng_len, List.length_reverse, List.length_append, List.length_cons, List.length_nil, List.length_set, List.length_replicate]; omega))) ?_)))
local macro_rules | `(tactic| ac_rfl) => `(tactic| ((with_reducible change PSD _ _ _ _ _); first
    | ((with_reducible change PSD _ _ (Stmt.Return none _ :: _) _ _); (refine' a_retN ?_; (repeat ((with_reducible first | change Rho | change D | change Res | change List D | change Int | change Bool | change Nat | change Sl | change Str | change List Rat | change Rat | change Value | change Addr | change List (Str × D) | change Option Int); rotate_left))))
    | ((with_reducible change PSD _ _ (Stmt.Break _ :: _) _ _); (refine' a_brk ?_; (repeat ((with_reducible first | change Rho | change D | change Res | change List D | change Int | change Bool | change Nat | change Sl | change Str | change List Rat | change Rat | change Value | change Addr | change List (Str × D) | change Option Int); rotate_left))))
    | ((with_reducible change PSD _ _ (Stmt.Continue _ :: _) _ _); (refine' a_cnt ?_; (repeat ((with_reducible first | change Rho | change D | change Res | change List D | change Int | change Bool | change Nat | change Sl | change Str | change List Rat | change Rat | change Value | change Addr | change List (Str × D) | change Option Int); rotate_left))))
    | ((with_reducible change PSD _ _ (Stmt.Pass _ :: _) _ _); (refine' a_pass ?_; (repeat ((with_reducible first | change Rho | change D | change Res | change List D | change Int | change Bool | change Nat | change Sl | change Str | change List Rat | change Rat | change Value | change Addr | change List (Str × D) | change Option Int); rotate_left))))))
local macro_rules | `(tactic| ac_rfl) => `(tactic| ((with_reducible change PSD _ _ _ _ _); first
    | ((with_reducible change PSD _ _ (Stmt.Expr (Expr.Call (Expr.Attribute (Expr.Name _ _) "extend" _) [_] [] _) _ :: _) _ _); (refine' a_extend (by assumption) ?_ ?_ ?_ ?_ ?_ ?_; (repeat ((with_reducible first | change Rho | change D | change Res | change List D | change Int | change Bool | change Nat | change Sl | change Str | change List Rat | change Rat | change Value | change Addr | change List (Str × D) | change Option Int); rotate_left))))
    | ((with_reducible change PSD _ _ (Stmt.Expr _ _ :: _) _ _); (refine' a_expr ?_ ?_; (repeat ((with_reducible first | change Rho | change D | change Res | change List D | change Int | change Bool | change Nat | change Sl | change Str | change List Rat | change Rat | change Value | change Addr | change List (Str × D) | change Option Int); rotate_left))))
    | ((with_reducible change PSD _ _ (Stmt.If _ [Stmt.Return (some (Expr.Constant (Const.bool false) _ _)) _] [] _ :: _) _ _); (refine' a_skip ?_ ?_; (repeat ((with_reducible first | change Rho | change D | change Res | change List D | change Int | change Bool | change Nat | change Sl | change Str | change List Rat | change Rat | change Value | change Addr | change List (Str × D) | change Option Int); rotate_left))))
    | ((with_reducible change PSD _ _ (Stmt.If _ (Stmt.Raise _ _ _ :: _) [] _ :: _) _ _); (refine' a_skip ?_ ?_; (repeat ((with_reducible first | change Rho | change D | change Res | change List D | change Int | change Bool | change Nat | change Sl | change Str | change List Rat | change Rat | change Value | change Addr | change List (Str × D) | change Option Int); rotate_left))))
    | ((with_reducible change PSD _ _ (Stmt.If _ _ _ _ :: _) _ _); (refine' a_ifG ?_ ?_; (repeat ((with_reducible first | change Rho | change D | change Res | change List D | change Int | change Bool | change Nat | change Sl | change Str | change List Rat | change Rat | change Value | change Addr | change List (Str × D) | change Option Int); rotate_left))))
    | ((with_reducible change PSD _ _ (Stmt.Return (some _) _ :: _) _ _); (refine' a_ret ?_ ?_; (repeat ((with_reducible first | change Rho | change D | change Res | change List D | change Int | change Bool | change Nat | change Sl | change Str | change List Rat | change Rat | change Value | change Addr | change List (Str × D) | change Option Int); rotate_left))))))
local macro_rules | `(tactic| ac_rfl) => `(tactic| ((with_reducible change PSD _ _ _ _ _); first
    | ((with_reducible change PSD _ _ (Stmt.Assign [Expr.Tuple [Expr.Name _ _, Expr.Name _ _, Expr.Name _ _] _ _] _ _ :: _) _ _); (refine' a_threeT (by assumption) ?_ ?_ ?_ ?_ ?_ ?_ ?_ ?_; (repeat ((with_reducible first | change Rho | change D | change Res | change List D | change Int | change Bool | change Nat | change Sl | change Str | change List Rat | change Rat | change Value | change Addr | change List (Str × D) | change Option Int); rotate_left))))
    | ((with_reducible change PSD _ _ (Stmt.Assign [Expr.Tuple [Expr.Name _ _, Expr.Name _ _] _ _] _ _ :: _) _ _); (refine' a_two (by assumption) ?_ ?_ ?_ ?_ ?_ ?_; (repeat ((with_reducible first | change Rho | change D | change Res | change List D | change Int | change Bool | change Nat | change Sl | change Str | change List Rat | change Rat | change Value | change Addr | change List (Str × D) | change Option Int); rotate_left))))
    | ((with_reducible change PSD _ _ (Stmt.Assign [Expr.Subscript (Expr.Name _ _) _ _] _ _ :: _) _ _); (refine' a_sub (by assumption) ?_ ?_ ?_ ?_ ?_ ?_ ?_; (repeat ((with_reducible first | change Rho | change D | change Res | change List D | change Int | change Bool | change Nat | change Sl | change Str | change List Rat | change Rat | change Value | change Addr | change List (Str × D) | change Option Int); rotate_left))))
    | ((with_reducible change PSD _ _ (Stmt.Expr (Expr.Call (Expr.Attribute (Expr.Name _ _) "append" _) [_] [] _) _ :: _) _ _); (refine' a_append (by assumption) ?_ ?_ ?_ ?_ ?_ ?_; (repeat ((with_reducible first | change Rho | change D | change Res | change List D | change Int | change Bool | change Nat | change Sl | change Str | change List Rat | change Rat | change Value | change Addr | change List (Str × D) | change Option Int); rotate_left))))
    | ((with_reducible change PSD _ _ (Stmt.Expr (Expr.Call (Expr.Attribute (Expr.Name _ _) "insert" _) [_, _] [] _) _ :: _) _ _); (refine' a_insert0 (by assumption) ?_ ?_ ?_ ?_ ?_ ?_; (repeat ((with_reducible first | change Rho | change D | change Res | change List D | change Int | change Bool | change Nat | change Sl | change Str | change List Rat | change Rat | change Value | change Addr | change List (Str × D) | change Option Int); rotate_left))))
    | ((with_reducible change PSD _ _ (Stmt.Expr (Expr.Call (Expr.Attribute (Expr.Name _ _) "pop" _) [] [] _) _ :: _) _ _); (refine' a_pop (by assumption) ?_ ?_ ?_ ?_; (repeat ((with_reducible first | change Rho | change D | change Res | change List D | change Int | change Bool | change Nat | change Sl | change Str | change List Rat | change Rat | change Value | change Addr | change List (Str × D) | change Option Int); rotate_left))))))
local macro_rules | `(tactic| ac_rfl) => `(tactic| ((with_reducible change PSD _ _ _ _ _); first
    | ((with_reducible change PSD _ _ (defBody _) _ _); (refine' psd_body rfl ?_; (repeat ((with_reducible first | change Rho | change D | change Res | change List D | change Int | change Bool | change Nat | change Sl | change Str | change List Rat | change Rat | change Value | change Addr | change List (Str × D) | change Option Int); rotate_left))))
    | ((with_reducible change PSD _ _ [] _ _); (refine' a_end ?_; (repeat ((with_reducible first | change Rho | change D | change Res | change List D | change Int | change Bool | change Nat | change Sl | change Str | change List Rat | change Rat | change Value | change Addr | change List (Str × D) | change Option Int); rotate_left))))
    | ((with_reducible change PSD _ _ (Stmt.Assign [Expr.Name _ _] _ _ :: _) _ _); (refine' a_set (by assumption) ?_ ?_ ?_ ?_ ?_; (repeat ((with_reducible first | change Rho | change D | change Res | change List D | change Int | change Bool | change Nat | change Sl | change Str | change List Rat | change Rat | change Value | change Addr | change List (Str × D) | change Option Int); rotate_left))))
    | ((with_reducible change PSD _ _ (Stmt.Assign [Expr.Tuple [Expr.Name _ _, Expr.Name _ _] _ _] (Expr.Tuple [_, _] _ _) _ :: _) _ _); (refine' a_par (by assumption) ?_ ?_ ?_ ?_ ?_ ?_; (repeat ((with_reducible first | change Rho | change D | change Res | change List D | change Int | change Bool | change Nat | change Sl | change Str | change List Rat | change Rat | change Value | change Addr | change List (Str × D) | change Option Int); rotate_left))))
    | ((with_reducible change PSD _ _ (Stmt.Assign [Expr.Tuple [Expr.Name _ _, Expr.Name _ _, Expr.Name _ _] _ _] (Expr.Tuple [_, _, _] _ _) _ :: _) _ _); (refine' a_par3 (by assumption) ?_ ?_ ?_ ?_ ?_ ?_ ?_; (repeat ((with_reducible first | change Rho | change D | change Res | change List D | change Int | change Bool | change Nat | change Sl | change Str | change List Rat | change Rat | change Value | change Addr | change List (Str × D) | change Option Int); rotate_left))))
    | ((with_reducible change PSD _ _ (Stmt.Assign [Expr.Tuple [Expr.Name _ _, Expr.Name _ _, Expr.Name _ _] _ _] (Expr.ListComp _ _ _ _) _ :: _) _ _); (refine' a_threeL (by assumption) ?_ ?_ ?_ ?_ ?_ ?_ ?_ ?_; (repeat ((with_reducible first | change Rho | change D | change Res | change List D | change Int | change Bool | change Nat | change Sl | change Str | change List Rat | change Rat | change Value | change Addr | change List (Str × D) | change Option Int); rotate_left))))))
local macro_rules | `(tactic| ac_rfl) => `(tactic| ((with_reducible change ∀ (_ : Shared) (_ : Hp) (_ : Addr) (_ : List (Str × Addr)) (_ : List Addr), _ → _); (intro s H C cl fp hX)))
local macro_rules | `(tactic| ac_rfl) => `(tactic| ((with_reducible change (∃ _, Put _ _ _ _ _ _ ∧ _)); (apply Exists.intro; apply And.intro; (focus ((repeat (with_reducible first | exact Put.z | apply Put.s)); done)))))
local macro_rules | `(tactic| ac_rfl) => `(tactic| ((with_reducible change BlkOk _ _ _ _); exact blkOk_by rfl))
local macro_rules | `(tactic| ac_rfl) => `(tactic| ((with_reducible change SeqOf _ _); (with_reducible first | exact SeqOf.l | exact SeqOf.t | exact SeqOf.k)))
local macro_rules | `(tactic| ac_rfl) => `(tactic| ((with_reducible change PID _ _ _ _ _ _); first
    | ((with_reducible change PID _ _ (Expr.Call (Expr.Name "range" _) [_] [] _) _ _ _); (refine' a_pRange (by assumption) (by assumption) ?_ ?_; (repeat ((with_reducible first | change Rho | change D | change Res | change List D | change Int | change Bool | change Nat | change Sl | change Str | change List Rat | change Rat | change Value | change Addr | change List (Str × D) | change Option Int); rotate_left))))
    | ((with_reducible change PID _ _ (Expr.Call (Expr.Name "range" _) [_, _] [] _) _ _ _); (refine' a_pRange2 (by assumption) (by assumption) ?_ ?_ ?_; (repeat ((with_reducible first | change Rho | change D | change Res | change List D | change Int | change Bool | change Nat | change Sl | change Str | change List Rat | change Rat | change Value | change Addr | change List (Str × D) | change Option Int); rotate_left))))
    | ((with_reducible change PID _ _ (Expr.Call (Expr.Name "zip" _) [_, _] [] _) _ _ _); (refine' a_pZip (by assumption) (by assumption) ?_; (repeat ((with_reducible first | change Rho | change D | change Res | change List D | change Int | change Bool | change Nat | change Sl | change Str | change List Rat | change Rat | change Value | change Addr | change List (Str × D) | change Option Int); rotate_left))))
    | ((with_reducible change PID _ _ (Expr.Call (Expr.Name "enumerate" _) [_] [] _) _ _ _); (refine' a_pEnum (by assumption) (by assumption) ?_; (repeat ((with_reducible first | change Rho | change D | change Res | change List D | change Int | change Bool | change Nat | change Sl | change Str | change List Rat | change Rat | change Value | change Addr | change List (Str × D) | change Option Int); rotate_left))))
    | ((with_reducible change PID _ _ _ _ _ _); (refine' a_pSeq ?_ ?_; (repeat ((with_reducible first | change Rho | change D | change Res | change List D | change Int | change Bool | change Nat | change Sl | change Str | change List Rat | change Rat | change Value | change Addr | change List (Str × D) | change Option Int); rotate_left))))))
local macro_rules | `(tactic| ac_rfl) => `(tactic| ((with_reducible change IxD _ _ _); first
    | ((with_reducible change IxD _ _ _); (first | eq_refl | (with_reducible first | exact ixd_t0 | exact ixd_t1 | exact ixd_t2 | exact ixd_l0 | exact ixd_l1 | exact ixd_l2) | (with_reducible first | apply ixd_l | apply ixd_t | apply ixd_k)))))
local macro_rules | `(tactic| ac_rfl) => `(tactic| ((with_reducible change TyD _ _ _); (first | eq_refl | (with_reducible first | exact TyD.non | exact TyD.bl _ | exact TyD.int _ | exact TyD.str _ | exact TyD.lst _ | exact TyD.tup _ | exact TyD.dct _))))
local macro_rules | `(tactic| ac_rfl) => `(tactic| ((with_reducible change CallD _ _ _ _); first
    | ((with_reducible change CallD _ _ _ _); (first | eq_refl | (with_reducible first | exact cl_map | exact cl_mapK | exact cl_lst | exact cl_tup | exact cl_lstK | exact cd_abs | exact cd_int | exact cd_intB | exact cl_list | exact cl_listT | exact cd_tuple) | exact cl_max (by assumption) | exact cl_min (by assumption) | (with_reducible refine cl_strI ?_) | (with_reducible refine cl_reprI ?_) | (with_reducible refine cl_divmod ?_)))
    | ((with_reducible change CallD _ (Value.builtin "isinstance") [_, D.tup _] _); (refine' cl_isiT (by assumption) (by repeat (first | exact ClDs.nil | refine ClDs.cons (by first | exact ClD.ty _ | exact ClD.own _) ?_)) ?_ (by assumption); (repeat ((with_reducible first | change Rho | change D | change Res | change List D | change Int | change Bool | change Nat | change Sl | change Str | change List Rat | change Rat | change Value | change Addr | change List (Str × D) | change Option Int); rotate_left))))
    | ((with_reducible change CallD _ (Value.builtin "isinstance") [_, _] _); (refine' cl_isi (by assumption) (by first | exact ClD.ty _ | exact ClD.own _) ?_ (by assumption); (repeat ((with_reducible first | change Rho | change D | change Res | change List D | change Int | change Bool | change Nat | change Sl | change Str | change List Rat | change Rat | change Value | change Addr | change List (Str × D) | change Option Int); rotate_left))))))
local macro_rules | `(tactic| ac_rfl) => `(tactic| ((with_reducible change UnD _ _ _ _); (first | eq_refl | (with_reducible exact un_negD))))
local macro_rules | `(tactic| ac_rfl) => `(tactic| ((with_reducible change BinD _ _ _ _ _); first
    | ((with_reducible change BinD _ _ _ _ _); (first | eq_refl | (with_reducible first | exact bd_add | exact bd_sub | exact bd_lt | exact bd_le | exact bd_gt | exact bd_ge | exact bd_eqI | exact bd_neI | exact bd_eqS | exact bd_neS | exact bd_eqB | exact bd_neB | exact b_isN | exact b_isnN) | (with_reducible refine b_mul ?_) | (with_reducible refine b_catL ?_) | (with_reducible refine b_repL ?_) | (with_reducible refine b_cat ?_) | (with_reducible refine b_modS ?_) | (with_reducible refine b_divS ?_)))
    | ((with_reducible change BinD _ (compareOp CmpOp.NotEq) (D.lst _) (D.lst []) _); exact b_neNilD (by assumption))
    | ((with_reducible change BinD _ (compareOp CmpOp.Eq) (D.lst _) (D.lst []) _); exact b_eqNilD (by assumption))))
local macro_rules | `(tactic| ac_rfl) => `(tactic| ((with_reducible change Side _); (first | (refine side_i ?_; (first | assumption | exact rfl | exact ⟨rfl, rfl⟩ | exact ⟨_, rfl⟩ | exact ⟨_, _, rfl⟩ | exact Nat.le_of_ble_eq_true rfl | eq_refl | exact decide_eq_true rfl | exact decide_eq_true (by assumption) | exact decide_eq_false (by assumption) | decide | omega | exact decide_eq_true (by omega) | exact decide_eq_false (by omega) | (simp only [List.length_map, rng_len, List.length_reverse, List.length_append, List.length_cons, List.length_nil, List.length_set, List.length_replicate]; omega))) | (refine side_i ?_; rotate_left))))
local macro_rules | `(tactic| ac_rfl) => `(tactic| ((with_reducible change SpG _); first
    | ((with_reducible change SpG (_ = _)); (first | exact (rfl : _ = _) | (refine' spg_end ?_; (repeat ((with_reducible first | change Rho | change D | change Res | change List D | change Int | change Bool | change Nat | change Sl | change Str | change List Rat | change Rat | change Value | change Addr | change List (Str × D) | change Option Int); rotate_left)))))
    | ((with_reducible change SpG _); ((fail_if_success (with_reducible first | change SpG ((_ : List D) = _ ∧ _) | change SpG ((_ : D) = _ ∧ _))); first | eq_refl | apply spg_ex | (refine' spg_and ?_ ?_; (repeat ((with_reducible first | change Rho | change D | change Res | change List D | change Int | change Bool | change Nat | change Sl | change Str | change List Rat | change Rat | change Value | change Addr | change List (Str × D) | change Option Int); rotate_left))) | (refine' spg_end ?_; (repeat ((with_reducible first | change Rho | change D | change Res | change List D | change Int | change Bool | change Nat | change Sl | change Str | change List Rat | change Rat | change Value | change Addr | change List (Str × D) | change Option Int); rotate_left)))))))
local macro_rules | `(tactic| ac_rfl) => `(tactic| ((with_reducible change SpG _); first
    | ((with_reducible change SpG _); exact spg_end (side_i (by with_reducible assumption)))
    | ((with_reducible change SpG ((_ : List D) = _ ∧ _)); (refine' spg_eq rfl ?_; (repeat ((with_reducible first | change Rho | change D | change Res | change List D | change Int | change Bool | change Nat | change Sl | change Str | change List Rat | change Rat | change Value | change Addr | change List (Str × D) | change Option Int); rotate_left))))
    | ((with_reducible change SpG ((_ : D) = _ ∧ _)); (refine' spg_eq rfl ?_; (repeat ((with_reducible first | change Rho | change D | change Res | change List D | change Int | change Bool | change Nat | change Sl | change Str | change List Rat | change Rat | change Value | change Addr | change List (Str × D) | change Option Int); rotate_left))))
    | ((with_reducible change SpG (_ = _ ∧ _)); ((fail_if_success (with_reducible first | change SpG ((_ : List D) = _ ∧ _) | change SpG ((_ : D) = _ ∧ _))); (refine' spg_and ?_ ?_; (repeat ((with_reducible first | change Rho | change D | change Res | change List D | change Int | change Bool | change Nat | change Sl | change Str | change List Rat | change Rat | change Value | change Addr | change List (Str × D) | change Option Int); rotate_left)))))
    | ((with_reducible change SpG (_ ∧ _)); ((fail_if_success (with_reducible first | change SpG ((_ : List D) = _ ∧ _) | change SpG ((_ : D) = _ ∧ _))); (refine' spg_and ?_ ?_; (repeat ((with_reducible first | change Rho | change D | change Res | change List D | change Int | change Bool | change Nat | change Sl | change Str | change List Rat | change Rat | change Value | change Addr | change List (Str × D) | change Option Int); rotate_left)))))
    | ((with_reducible change SpG (∃ _, _)); (apply spg_ex))))
local macro_rules | `(tactic| ac_rfl) => `(tactic| ((with_reducible change (Side _ ∧ _) ∨ (Side _ ∧ _)); (first | refine Or.inl ⟨(by refine side_i ?_; (first | assumption | exact rfl | exact ⟨rfl, rfl⟩ | exact ⟨_, rfl⟩ | exact ⟨_, _, rfl⟩ | exact Nat.le_of_ble_eq_true rfl | eq_refl | exact decide_eq_true rfl | exact decide_eq_true (by assumption) | exact decide_eq_false (by assumption) | decide | omega | exact decide_eq_true (by omega) | exact decide_eq_false (by omega) | (simp only [List.length_map, rng_len, List.length_reverse, List.length_append, List.length_cons, List.length_nil, List.length_set, List.length_replicate]; omega))), rfl⟩ | refine Or.inr ⟨(by refine side_i ?_; (first | assumption | exact rfl | exact ⟨rfl, rfl⟩ | exact ⟨_, rfl⟩ | exact ⟨_, _, rfl⟩ | exact Nat.le_of_ble_eq_true rfl | eq_refl | exact decide_eq_true rfl | exact decide_eq_true (by assumption) | exact decide_eq_false (by assumption) | decide | omega | exact decide_eq_true (by omega) | exact decide_eq_false (by omega) | (simp only [List.length_map, rng_len, List.length_reverse, List.length_append, List.length_cons, List.length_nil, List.length_set, List.length_replicate]; omega))), ?_⟩)))
local macro_rules | `(tactic| ac_rfl) => `(tactic| ((with_reducible change (Side _ ∧ PD _ _ _ _ _) ∨ (Side _ ∧ _)); (first | refine Or.inl ⟨(by refine side_i ?_; (first | assumption | exact rfl | exact ⟨rfl, rfl⟩ | exact ⟨_, rfl⟩ | exact ⟨_, _, rfl⟩ | exact Nat.le_of_ble_eq_true rfl | eq_refl | exact decide_eq_true rfl | exact decide_eq_true (by assumption) | exact decide_eq_false (by assumption) | decide | omega | exact decide_eq_true (by omega) | exact decide_eq_false (by omega) | (simp only [List.length_map, rng_len, List.length_reverse, List.length_append, List.length_cons, List.length_nil, List.length_set, List.length_replicate]; omega))), ?_⟩ | refine Or.inr ⟨(by refine side_i ?_; (first | assumption | exact rfl | exact ⟨rfl, rfl⟩ | exact ⟨_, rfl⟩ | exact ⟨_, _, rfl⟩ | exact Nat.le_of_ble_eq_true rfl | eq_refl | exact decide_eq_true rfl | exact decide_eq_true (by assumption) | exact decide_eq_false (by assumption) | decide | omega | exact decide_eq_true (by omega) | exact decide_eq_false (by omega) | (simp only [List.length_map, rng_len, List.length_reverse, List.length_append, List.length_cons, List.length_nil, List.length_set, List.length_replicate]; omega))), ?_⟩)))
local macro_rules | `(tactic| ac_rfl) => `(tactic| ((with_reducible change (Side _ ∧ PSD _ _ _ _ _) ∨ (Side _ ∧ _)); (first | refine Or.inl ⟨(by refine side_i ?_; (first | assumption | exact rfl | exact ⟨rfl, rfl⟩ | exact ⟨_, rfl⟩ | exact ⟨_, _, rfl⟩ | exact Nat.le_of_ble_eq_true rfl | eq_refl | exact decide_eq_true rfl | exact decide_eq_true (by assumption) | exact decide_eq_false (by assumption) | decide | omega | exact decide_eq_true (by omega) | exact decide_eq_false (by omega) | (simp only [List.length_map, rng_len, List.length_reverse, List.length_append, List.length_cons, List.length_nil, List.length_set, List.length_replicate]; omega))), ?_⟩ | refine Or.inr ⟨(by refine side_i ?_; (first | assumption | exact rfl | exact ⟨rfl, rfl⟩ | exact ⟨_, rfl⟩ | exact ⟨_, _, rfl⟩ | exact Nat.le_of_ble_eq_true rfl | eq_refl | exact decide_eq_true rfl | exact decide_eq_true (by assumption) | exact decide_eq_false (by assumption) | decide | omega | exact decide_eq_true (by omega) | exact decide_eq_false (by omega) | (simp only [List.length_map, rng_len, List.length_reverse, List.length_append, List.length_cons, List.length_nil, List.length_set, List.length_replicate]; omega))), ?_⟩)))
local macro_rules | `(tactic| ac_rfl) => `(tactic| ((with_reducible change (Side _ ∧ _ ∧ _) ∨ (Side _ ∧ _)); (first | refine Or.inl ⟨(by refine side_i ?_; (first | assumption | exact rfl | exact ⟨rfl, rfl⟩ | exact ⟨_, rfl⟩ | exact ⟨_, _, rfl⟩ | exact Nat.le_of_ble_eq_true rfl | eq_refl | exact decide_eq_true rfl | exact decide_eq_true (by assumption) | exact decide_eq_false (by assumption) | decide | omega | exact decide_eq_true (by omega) | exact decide_eq_false (by omega) | (simp only [List.length_map, rng_len, List.length_reverse, List.length_append, List.length_cons, List.length_nil, List.length_set, List.length_replicate]; omega))), rfl, rfl⟩ | refine Or.inr ⟨(by refine side_i ?_; (first | assumption | exact rfl | exact ⟨rfl, rfl⟩ | exact ⟨_, rfl⟩ | exact ⟨_, _, rfl⟩ | exact Nat.le_of_ble_eq_true rfl | eq_refl | exact decide_eq_true rfl | exact decide_eq_true (by assumption) | exact decide_eq_false (by assumption) | decide | omega | exact decide_eq_true (by omega) | exact decide_eq_false (by omega) | (simp only [List.length_map, rng_len, List.length_reverse, List.length_append, List.length_cons, List.length_nil, List.length_set, List.length_replicate]; omega))), ?_⟩)))
local macro_rules | `(tactic| ac_rfl) => `(tactic| ((with_reducible change (Side _ ∧ _ ∧ _) ∨ (Side _ ∧ PD _ (Expr.BoolOp BoolOp.And _ _) _ _ _)); (first | refine Or.inl ⟨(by refine side_i ?_; (first | assumption | exact rfl | exact ⟨rfl, rfl⟩ | exact ⟨_, rfl⟩ | exact ⟨_, _, rfl⟩ | exact Nat.le_of_ble_eq_true rfl | eq_refl | exact decide_eq_true rfl | exact decide_eq_true (by assumption) | exact decide_eq_false (by assumption) | decide | omega | exact decide_eq_true (by omega) | exact decide_eq_false (by omega) | (simp only [List.length_map, rng_len, List.length_reverse, List.length_append, List.length_cons, List.length_nil, List.length_set, List.length_replicate]; omega))), rfl, rfl⟩ | (refine' Or.inr ⟨?_, ?_⟩; (repeat ((with_reducible first | change Rho | change D | change Res | change List D | change Int | change Bool | change Nat | change Sl | change Str | change List Rat | change Rat | change Value | change Addr | change List (Str × D) | change Option Int); rotate_left))))))
local macro_rules | `(tactic| ac_rfl) => `(tactic| ((with_reducible change PWD _ _ _ _ _); first
    | ((with_reducible change PWD _ (Expr.BoolOp BoolOp.And [_] _) _ _ _); (refine' a_w1a ?_; (repeat ((with_reducible first | change Rho | change D | change Res | change List D | change Int | change Bool | change Nat | change Sl | change Str | change List Rat | change Rat | change Value | change Addr | change List (Str × D) | change Option Int); rotate_left))))
    | ((with_reducible change PWD _ (Expr.BoolOp BoolOp.Or [_] _) _ _ _); (refine' a_w1o ?_; (repeat ((with_reducible first | change Rho | change D | change Res | change List D | change Int | change Bool | change Nat | change Sl | change Str | change List Rat | change Rat | change Value | change Addr | change List (Str × D) | change Option Int); rotate_left))))
    | ((with_reducible change PWD _ (Expr.BoolOp BoolOp.And _ _) _ _ _); (refine' a_wAnd ?_ ?_; (repeat ((with_reducible first | change Rho | change D | change Res | change List D | change Int | change Bool | change Nat | change Sl | change Str | change List Rat | change Rat | change Value | change Addr | change List (Str × D) | change Option Int); rotate_left))))
    | ((with_reducible change PWD _ (Expr.BoolOp BoolOp.Or _ _) _ _ _); (refine' a_wOr ?_ ?_; (repeat ((with_reducible first | change Rho | change D | change Res | change List D | change Int | change Bool | change Nat | change Sl | change Str | change List Rat | change Rat | change Value | change Addr | change List (Str × D) | change Option Int); rotate_left))))))
local macro_rules | `(tactic| ac_rfl) => `(tactic| ((with_reducible change PTD _ _ _ _ _); first
    | ((with_reducible change PTD _ (Expr.Compare (Expr.Name _ _) [CmpOp.NotEq] [Expr.List [] _] _) _ _ _); (refine' a_neNilO (by assumption) ?_; (repeat ((with_reducible first | change Rho | change D | change Res | change List D | change Int | change Bool | change Nat | change Sl | change Str | change List Rat | change Rat | change Value | change Addr | change List (Str × D) | change Option Int); rotate_left)); (focus ((repeat (with_reducible first | exact Slot.z | apply Slot.s)); done))))
    | ((with_reducible change PTD _ (Expr.UnaryOp UnaryOp.Not _ _) _ _ _); (refine' a_tNot ?_; (repeat ((with_reducible first | change Rho | change D | change Res | change List D | change Int | change Bool | change Nat | change Sl | change Str | change List Rat | change Rat | change Value | change Addr | change List (Str × D) | change Option Int); rotate_left))))
    | ((with_reducible change PTD _ (Expr.Compare _ [_] [_] _) _ _ _); (refine' a_tCmp ?_ ?_ ?_; (repeat ((with_reducible first | change Rho | change D | change Res | change List D | change Int | change Bool | change Nat | change Sl | change Str | change List Rat | change Rat | change Value | change Addr | change List (Str × D) | change Option Int); rotate_left))))
    | ((with_reducible change PTD _ (Expr.BoolOp _ _ _) _ _ _); (refine' a_tBoolV ?_; (repeat ((with_reducible first | change Rho | change D | change Res | change List D | change Int | change Bool | change Nat | change Sl | change Str | change List Rat | change Rat | change Value | change Addr | change List (Str × D) | change Option Int); rotate_left))))
    | ((with_reducible change PTD _ _ _ _ _); (first | eq_refl | (refine' a_tBl ?_; (repeat ((with_reducible first | change Rho | change D | change Res | change List D | change Int | change Bool | change Nat | change Sl | change Str | change List Rat | change Rat | change Value | change Addr | change List (Str × D) | change Option Int); rotate_left)))))))
local macro_rules | `(tactic| ac_rfl) => `(tactic| ((with_reducible change PWT _ _ _ _); first
    | ((with_reducible change PWT _ (Expr.BoolOp BoolOp.And [_] _) _ _); (refine' a_wt1a ?_; (repeat ((with_reducible first | change Rho | change D | change Res | change List D | change Int | change Bool | change Nat | change Sl | change Str | change List Rat | change Rat | change Value | change Addr | change List (Str × D) | change Option Int); rotate_left))))
    | ((with_reducible change PWT _ (Expr.BoolOp BoolOp.Or [_] _) _ _); (refine' a_wt1o ?_; (repeat ((with_reducible first | change Rho | change D | change Res | change List D | change Int | change Bool | change Nat | change Sl | change Str | change List Rat | change Rat | change Value | change Addr | change List (Str × D) | change Option Int); rotate_left))))
    | ((with_reducible change PWT _ (Expr.BoolOp BoolOp.And _ _) _ _); (refine' a_wtAnd ?_ ?_; (repeat ((with_reducible first | change Rho | change D | change Res | change List D | change Int | change Bool | change Nat | change Sl | change Str | change List Rat | change Rat | change Value | change Addr | change List (Str × D) | change Option Int); rotate_left))))
    | ((with_reducible change PWT _ (Expr.BoolOp BoolOp.Or _ _) _ _); (refine' a_wtOr ?_ ?_; (repeat ((with_reducible first | change Rho | change D | change Res | change List D | change Int | change Bool | change Nat | change Sl | change Str | change List Rat | change Rat | change Value | change Addr | change List (Str × D) | change Option Int); rotate_left))))))
local macro_rules | `(tactic| ac_rfl) => `(tactic| ((with_reducible change PWF _ _ _ _); first
    | ((with_reducible change PWF _ (Expr.BoolOp BoolOp.And [_] _) _ _); (refine' a_wf1a ?_; (repeat ((with_reducible first | change Rho | change D | change Res | change List D | change Int | change Bool | change Nat | change Sl | change Str | change List Rat | change Rat | change Value | change Addr | change List (Str × D) | change Option Int); rotate_left))))
    | ((with_reducible change PWF _ (Expr.BoolOp BoolOp.Or [_] _) _ _); (refine' a_wf1o ?_; (repeat ((with_reducible first | change Rho | change D | change Res | change List D | change Int | change Bool | change Nat | change Sl | change Str | change List Rat | change Rat | change Value | change Addr | change List (Str × D) | change Option Int); rotate_left))))
    | ((with_reducible change PWF _ (Expr.BoolOp BoolOp.Or _ _) _ _); (refine' a_wfOr ?_ ?_; (repeat ((with_reducible first | change Rho | change D | change Res | change List D | change Int | change Bool | change Nat | change Sl | change Str | change List Rat | change Rat | change Value | change Addr | change List (Str × D) | change Option Int); rotate_left))))
    | ((with_reducible change PWF _ (Expr.BoolOp BoolOp.And _ _) _ _); (refine' a_wfAnd ?_ ?_; (repeat ((with_reducible first | change Rho | change D | change Res | change List D | change Int | change Bool | change Nat | change Sl | change Str | change List Rat | change Rat | change Value | change Addr | change List (Str × D) | change Option Int); rotate_left))))))
local macro_rules | `(tactic| ac_rfl) => `(tactic| ((with_reducible change PTT _ _ _ _); first
    | ((with_reducible change PTT _ (Expr.UnaryOp UnaryOp.Not _ _) _ _); (refine' a_ttNot ?_; (repeat ((with_reducible first | change Rho | change D | change Res | change List D | change Int | change Bool | change Nat | change Sl | change Str | change List Rat | change Rat | change Value | change Addr | change List (Str × D) | change Option Int); rotate_left))))
    | ((with_reducible change PTT _ (Expr.BoolOp _ _ _) _ _); (refine' a_tPW ?_; (repeat ((with_reducible first | change Rho | change D | change Res | change List D | change Int | change Bool | change Nat | change Sl | change Str | change List Rat | change Rat | change Value | change Addr | change List (Str × D) | change Option Int); rotate_left))))
    | ((with_reducible change PTT _ _ _ _); (refine' a_tBase ?_ ?_; (repeat ((with_reducible first | change Rho | change D | change Res | change List D | change Int | change Bool | change Nat | change Sl | change Str | change List Rat | change Rat | change Value | change Addr | change List (Str × D) | change Option Int); rotate_left))))))
local macro_rules | `(tactic| ac_rfl) => `(tactic| ((with_reducible change PTF _ _ _ _); first
    | ((with_reducible change PTF _ (Expr.UnaryOp UnaryOp.Not _ _) _ _); (refine' a_fNot ?_; (repeat ((with_reducible first | change Rho | change D | change Res | change List D | change Int | change Bool | change Nat | change Sl | change Str | change List Rat | change Rat | change Value | change Addr | change List (Str × D) | change Option Int); rotate_left))))
    | ((with_reducible change PTF _ (Expr.BoolOp _ _ _) _ _); (refine' a_fPW ?_; (repeat ((with_reducible first | change Rho | change D | change Res | change List D | change Int | change Bool | change Nat | change Sl | change Str | change List Rat | change Rat | change Value | change Addr | change List (Str × D) | change Option Int); rotate_left))))
    | ((with_reducible change PTF _ _ _ _); (refine' a_fBase ?_ ?_; (repeat ((with_reducible first | change Rho | change D | change Res | change List D | change Int | change Bool | change Nat | change Sl | change Str | change List Rat | change Rat | change Value | change Addr | change List (Str × D) | change Option Int); rotate_left))))))
local macro_rules | `(tactic| ac_rfl) => `(tactic| ((with_reducible change POD _ _ _ _ _); first
    | ((with_reducible change POD _ none _ _ _); exact a_oNone)
    | ((with_reducible change POD _ (some _) _ _ _); (refine' a_oSome ?_; (repeat ((with_reducible first | change Rho | change D | change Res | change List D | change Int | change Bool | change Nat | change Sl | change Str | change List Rat | change Rat | change Value | change Addr | change List (Str × D) | change Option Int); rotate_left))))))
local macro_rules | `(tactic| ac_rfl) => `(tactic| ((with_reducible change PKD _ _ _ _ _); first
    | ((with_reducible change PKD _ [] _ _ _); exact a_knil)
    | ((with_reducible change PKD _ (_ :: _) _ _ _); (refine' a_kcons ?_ ?_; (repeat ((with_reducible first | change Rho | change D | change Res | change List D | change Int | change Bool | change Nat | change Sl | change Str | change List Rat | change Rat | change Value | change Addr | change List (Str × D) | change Option Int); rotate_left))))))
local macro_rules | `(tactic| ac_rfl) => `(tactic| ((with_reducible change PAV _ _ _ _ _); first
    | ((with_reducible change PAV _ [] _ _ _); exact a_nil)
    | ((with_reducible change PAV _ (_ :: _) _ _ _); (refine' a_cons ?_ ?_; (repeat ((with_reducible first | change Rho | change D | change Res | change List D | change Int | change Bool | change Nat | change Sl | change Str | change List Rat | change Rat | change Value | change Addr | change List (Str × D) | change Option Int); rotate_left))))))
local macro_rules | `(tactic| ac_rfl) => `(tactic| ((with_reducible change PD _ _ _ _ _); first
    | ((with_reducible change PD _ (Expr.Call (Expr.Name _ _) [] [] _) _ _ _); (first | eq_refl | (refine' a_call0 (by assumption) (by with_reducible assumption) ?_; (repeat ((with_reducible first | change Rho | change D | change Res | change List D | change Int | change Bool | change Nat | change Sl | change Str | change List Rat | change Rat | change Value | change Addr | change List (Str × D) | change Option Int); rotate_left)))))
    | ((with_reducible change PD _ (Expr.Call (Expr.Name _ _) _ [] _) _ _ _); (first | eq_refl | (refine' a_callIO (by assumption) (by with_reducible assumption) ?_ ?_ ?_ ?_ ?_; (repeat ((with_reducible first | change Rho | change D | change Res | change List D | change Int | change Bool | change Nat | change Sl | change Str | change List Rat | change Rat | change Value | change Addr | change List (Str × D) | change Option Int); rotate_left)); (focus ((repeat (with_reducible first | exact Slot.z | apply Slot.s)); done)); (repeat ((with_reducible first | change Rho | change D | change Res | change List D | change Int | change Bool | change Nat | change Sl | change Str | change List Rat | change Rat | change Value | change Addr | change List (Str × D) | change Option Int); rotate_left))) | (refine' a_call (by assumption) (by with_reducible assumption) ?_ ?_; (repeat ((with_reducible first | change Rho | change D | change Res | change List D | change Int | change Bool | change Nat | change Sl | change Str | change List Rat | change Rat | change Value | change Addr | change List (Str × D) | change Option Int); rotate_left))) | (refine' a_make (by assumption) (by with_reducible assumption) ?_ ?_; (repeat ((with_reducible first | change Rho | change D | change Res | change List D | change Int | change Bool | change Nat | change Sl | change Str | change List Rat | change Rat | change Value | change Addr | change List (Str × D) | change Option Int); rotate_left))) | (refine' a_callT (by assumption) (by with_reducible assumption) ?_ ?_; (repeat ((with_reducible first | change Rho | change D | change Res | change List D | change Int | change Bool | change Nat | change Sl | change Str | change List Rat | change Rat | change Value | change Addr | change List (Str × D) | change Option Int); rotate_left))) | (with_reducible change PD _ (Expr.Call (Expr.Name "len" _) _ _ _) _ _ _); (first | eq_refl | (refine' a_len (by assumption) (by assumption) ?_ ?_; (repeat ((with_reducible first | change Rho | change D | change Res | change List D | change Int | change Bool | change Nat | change Sl | change Str | change List Rat | change Rat | change Value | change Addr | change List (Str × D) | change Option Int); rotate_left)))) | (with_reducible change PD _ (Expr.Call (Expr.Name "abs" _) _ _ _) _ _ _); (refine' a_abs (by assumption) (by assumption) ?_ ?_; (repeat ((with_reducible first | change Rho | change D | change Res | change List D | change Int | change Bool | change Nat | change Sl | change Str | change List Rat | change Rat | change Value | change Addr | change List (Str × D) | change Option Int); rotate_left))) | (with_reducible change PD _ (Expr.Call (Expr.Name "max" _) _ _ _) _ _ _); (refine' a_max (by assumption) (by assumption) ?_ ?_; (repeat ((with_reducible first | change Rho | change D | change Res | change List D | change Int | change Bool | change Nat | change Sl | change Str | change List Rat | change Rat | change Value | change Addr | change List (Str × D) | change Option Int); rotate_left))) | (with_reducible change PD _ (Expr.Call (Expr.Name "min" _) _ _ _) _ _ _); (refine' a_min (by assumption) (by assumption) ?_ ?_; (repeat ((with_reducible first | change Rho | change D | change Res | change List D | change Int | change Bool | change Nat | change Sl | change Str | change List Rat | change Rat | change Value | change Addr | change List (Str × D) | change Option Int); rotate_left))) | (with_reducible change PD _ (Expr.Call (Expr.Name "repr" _) _ _ _) _ _ _); (refine' a_repr (by assumption) (by assumption) ?_ ?_; (repeat ((with_reducible first | change Rho | change D | change Res | change List D | change Int | change Bool | change Nat | change Sl | change Str | change List Rat | change Rat | change Value | change Addr | change List (Str × D) | change Option Int); rotate_left))) | (with_reducible change PD _ (Expr.Call (Expr.Name "divmod" _) _ _ _) _ _ _); (refine' a_divmod (by assumption) (by assumption) ?_ ?_; (repeat ((with_reducible first | change Rho | change D | change Res | change List D | change Int | change Bool | change Nat | change Sl | change Str | change List Rat | change Rat | change Value | change Addr | change List (Str × D) | change Option Int); rotate_left))) | (with_reducible change PD _ (Expr.Call (Expr.Name "isinstance" _) _ _ _) _ _ _); (refine' a_isi (by assumption) (by assumption) ?_ ?_; (repeat ((with_reducible first | change Rho | change D | change Res | change List D | change Int | change Bool | change Nat | change Sl | change Str | change List Rat | change Rat | change Value | change Addr | change List (Str × D) | change Option Int); rotate_left))) | (with_reducible change PD _ (Expr.Call (Expr.Name "int" _) _ _ _) _ _ _); (refine' a_cInt (by assumption) (by assumption) ?_ ?_; (repeat ((with_reducible first | change Rho | change D | change Res | change List D | change Int | change Bool | change Nat | change Sl | change Str | change List Rat | change Rat | change Value | change Addr | change List (Str × D) | change Option Int); rotate_left))) | (with_reducible change PD _ (Expr.Call (Expr.Name "str" _) _ _ _) _ _ _); (refine' a_cStr (by assumption) (by assumption) ?_ ?_; (repeat ((with_reducible first | change Rho | change D | change Res | change List D | change Int | change Bool | change Nat | change Sl | change Str | change List Rat | change Rat | change Value | change Addr | change List (Str × D) | change Option Int); rotate_left))) | (with_reducible change PD _ (Expr.Call (Expr.Name "list" _) _ _ _) _ _ _); (refine' a_cList (by assumption) (by assumption) ?_ ?_; (repeat ((with_reducible first | change Rho | change D | change Res | change List D | change Int | change Bool | change Nat | change Sl | change Str | change List Rat | change Rat | change Value | change Addr | change List (Str × D) | change Option Int); rotate_left))) | (with_reducible change PD _ (Expr.Call (Expr.Name "tuple" _) _ _ _) _ _ _); (refine' a_cTuple (by assumption) (by assumption) ?_ ?_; (repeat ((with_reducible first | change Rho | change D | change Res | change List D | change Int | change Bool | change Nat | change Sl | change Str | change List Rat | change Rat | change Value | change Addr | change List (Str × D) | change Option Int); rotate_left)))))
    | ((with_reducible change PD _ (Expr.Call (Expr.Attribute _ _ _) _ _ _) _ _ _); (first | eq_refl | (refine' a_meth0 (by assumption) (by with_reducible assumption) ?_ rfl ?_; (repeat ((with_reducible first | change Rho | change D | change Res | change List D | change Int | change Bool | change Nat | change Sl | change Str | change List Rat | change Rat | change Value | change Addr | change List (Str × D) | change Option Int); rotate_left))) | (refine' a_meth (by assumption) (by with_reducible assumption) ?_ rfl ?_ ?_; (repeat ((with_reducible first | change Rho | change D | change Res | change List D | change Int | change Bool | change Nat | change Sl | change Str | change List Rat | change Rat | change Value | change Addr | change List (Str × D) | change Option Int); rotate_left)))))))
local macro_rules | `(tactic| ac_rfl) => `(tactic| ((with_reducible change PD _ _ _ _ _); first
    | ((with_reducible change PD _ (Expr.Subscript _ (Expr.Slice none none (some (Expr.UnaryOp UnaryOp.USub (Expr.Constant (Const.int 1) _ _) _)) _) _) _ _ _); (refine' a_rev ?_; (repeat ((with_reducible first | change Rho | change D | change Res | change List D | change Int | change Bool | change Nat | change Sl | change Str | change List Rat | change Rat | change Value | change Addr | change List (Str × D) | change Option Int); rotate_left))))
    | ((with_reducible change PD _ (Expr.Subscript _ (Expr.Slice _ _ none _) _) _ _ _); (refine' a_slice ?_ ?_ ?_; (repeat ((with_reducible first | change Rho | change D | change Res | change List D | change Int | change Bool | change Nat | change Sl | change Str | change List Rat | change Rat | change Value | change Addr | change List (Str × D) | change Option Int); rotate_left))))
    | ((with_reducible change PD _ (Expr.Subscript (Expr.Name _ _) _ _) _ _ _); (first | (refine' a_ixO (by assumption) ?_ ?_ ?_ ?_; (repeat ((with_reducible first | change Rho | change D | change Res | change List D | change Int | change Bool | change Nat | change Sl | change Str | change List Rat | change Rat | change Value | change Addr | change List (Str × D) | change Option Int); rotate_left)); (focus ((repeat (with_reducible first | exact Slot.z | apply Slot.s)); done))) | (refine' a_ix ?_ ?_ ?_; (repeat ((with_reducible first | change Rho | change D | change Res | change List D | change Int | change Bool | change Nat | change Sl | change Str | change List Rat | change Rat | change Value | change Addr | change List (Str × D) | change Option Int); rotate_left)))))
    | ((with_reducible change PD _ (Expr.Subscript _ _ _) _ _ _); (refine' a_ix ?_ ?_ ?_; (repeat ((with_reducible first | change Rho | change D | change Res | change List D | change Int | change Bool | change Nat | change Sl | change Str | change List Rat | change Rat | change Value | change Addr | change List (Str × D) | change Option Int); rotate_left))))
    | ((with_reducible change PD _ (Expr.Attribute _ _ _) _ _ _); (first | eq_refl | (refine' a_fld (by assumption) ?_ (by with_reducible assumption) (by with_reducible assumption) rfl; (repeat ((with_reducible first | change Rho | change D | change Res | change List D | change Int | change Bool | change Nat | change Sl | change Str | change List Rat | change Rat | change Value | change Addr | change List (Str × D) | change Option Int); rotate_left)))))
    | ((with_reducible change PD _ (Expr.Call (Expr.Name _ _) [] (_ :: _) _) _ _ _); (first | eq_refl | (refine' a_callK (by assumption) (by with_reducible assumption) ?_ ?_ ?_; (repeat ((with_reducible first | change Rho | change D | change Res | change List D | change Int | change Bool | change Nat | change Sl | change Str | change List Rat | change Rat | change Value | change Addr | change List (Str × D) | change Option Int); rotate_left)))))))
local macro_rules | `(tactic| ac_rfl) => `(tactic| ((with_reducible change PD _ _ _ _ _); first
    | ((with_reducible change PD _ (Expr.BoolOp _ [_] _) _ _ _); (refine' a_one ?_; (repeat ((with_reducible first | change Rho | change D | change Res | change List D | change Int | change Bool | change Nat | change Sl | change Str | change List Rat | change Rat | change Value | change Addr | change List (Str × D) | change Option Int); rotate_left))))
    | ((with_reducible change PD _ (Expr.BoolOp BoolOp.And _ _) _ _ _); (refine' a_andX ?_ ?_; (repeat ((with_reducible first | change Rho | change D | change Res | change List D | change Int | change Bool | change Nat | change Sl | change Str | change List Rat | change Rat | change Value | change Addr | change List (Str × D) | change Option Int); rotate_left))))
    | ((with_reducible change PD _ (Expr.BoolOp BoolOp.Or _ _) _ _ _); (refine' a_orX ?_ ?_; (repeat ((with_reducible first | change Rho | change D | change Res | change List D | change Int | change Bool | change Nat | change Sl | change Str | change List Rat | change Rat | change Value | change Addr | change List (Str × D) | change Option Int); rotate_left))))
    | ((with_reducible change PD _ (Expr.IfExp _ _ _ _) _ _ _); (refine' a_ifX ?_ ?_; (repeat ((with_reducible first | change Rho | change D | change Res | change List D | change Int | change Bool | change Nat | change Sl | change Str | change List Rat | change Rat | change Value | change Addr | change List (Str × D) | change Option Int); rotate_left))))
    | ((with_reducible change PD _ (Expr.Tuple _ _ _) _ _ _); (refine' a_tup ?_ ?_; (repeat ((with_reducible first | change Rho | change D | change Res | change List D | change Int | change Bool | change Nat | change Sl | change Str | change List Rat | change Rat | change Value | change Addr | change List (Str × D) | change Option Int); rotate_left))))
    | ((with_reducible change PD _ (Expr.List _ _) _ _ _); (refine' a_lst ?_ ?_; (repeat ((with_reducible first | change Rho | change D | change Res | change List D | change Int | change Bool | change Nat | change Sl | change Str | change List Rat | change Rat | change Value | change Addr | change List (Str × D) | change Option Int); rotate_left))))))
local macro_rules | `(tactic| ac_rfl) => `(tactic| ((with_reducible change PD _ _ _ _ _); first
    | ((with_reducible change PD _ (Expr.Name _ _) _ _ _); (first | focus (refine' a_move (by assumption) ?_ ?_; (repeat ((with_reducible first | change Rho | change D | change Res | change List D | change Int | change Bool | change Nat | change Sl | change Str | change List Rat | change Rat | change Value | change Addr | change List (Str × D) | change Option Int); rotate_left)); (focus ((repeat (with_reducible first | exact Slot.z | apply Slot.s)); done)); (repeat ((with_reducible first | change Rho | change D | change Res | change List D | change Int | change Bool | change Nat | change Sl | change Str | change List Rat | change Rat | change Value | change Addr | change List (Str × D) | change Option Int); rotate_left)); (focus ((repeat (with_reducible first | exact Put.z | apply Put.s)); done))) | (refine' a_ofV ?_; (repeat ((with_reducible first | change Rho | change D | change Res | change List D | change Int | change Bool | change Nat | change Sl | change Str | change List Rat | change Rat | change Value | change Addr | change List (Str × D) | change Option Int); rotate_left)))))
    | ((with_reducible change PD _ (Expr.Constant _ _ _) _ _ _); (refine' a_ofV ?_; (repeat ((with_reducible first | change Rho | change D | change Res | change List D | change Int | change Bool | change Nat | change Sl | change Str | change List Rat | change Rat | change Value | change Addr | change List (Str × D) | change Option Int); rotate_left))))
    | ((with_reducible change PD _ (Expr.BinOp _ _ _ _) _ _ _); (refine' a_bin ?_ ?_ ?_; (repeat ((with_reducible first | change Rho | change D | change Res | change List D | change Int | change Bool | change Nat | change Sl | change Str | change List Rat | change Rat | change Value | change Addr | change List (Str × D) | change Option Int); rotate_left))))
    | ((with_reducible change PD _ (Expr.Compare _ [_] [_] _) _ _ _); (refine' a_cmp ?_ ?_ ?_; (repeat ((with_reducible first | change Rho | change D | change Res | change List D | change Int | change Bool | change Nat | change Sl | change Str | change List Rat | change Rat | change Value | change Addr | change List (Str × D) | change Option Int); rotate_left))))
    | ((with_reducible change PD _ (Expr.UnaryOp UnaryOp.Not _ _) _ _ _); (refine' a_notV ?_; (repeat ((with_reducible first | change Rho | change D | change Res | change List D | change Int | change Bool | change Nat | change Sl | change Str | change List Rat | change Rat | change Value | change Addr | change List (Str × D) | change Option Int); rotate_left))))
    | ((with_reducible change PD _ (Expr.UnaryOp _ _ _) _ _ _); (refine' a_un ?_ ?_; (repeat ((with_reducible first | change Rho | change D | change Res | change List D | change Int | change Bool | change Nat | change Sl | change Str | change List Rat | change Rat | change Value | change Addr | change List (Str × D) | change Option Int); rotate_left))))))
local macro_rules | `(tactic| ac_rfl) => `(tactic| ((with_reducible change PDV _ _ _ _ _); first
    | ((with_reducible change PDV _ (Expr.Constant _ _ _) _ _ _); (with_reducible first | exact a_int | exact a_str | exact a_bl | exact a_non))
    | ((with_reducible change PDV _ (Expr.Name _ _) _ _ _); (first | focus (refine' a_name (by assumption) ?_; (repeat ((with_reducible first | change Rho | change D | change Res | change List D | change Int | change Bool | change Nat | change Sl | change Str | change List Rat | change Rat | change Value | change Addr | change List (Str × D) | change Option Int); rotate_left)); (focus ((repeat (with_reducible first | exact Slot.z | apply Slot.s)); done))) | focus (refine' a_stillN (by assumption) ?_ ?_; (repeat ((with_reducible first | change Rho | change D | change Res | change List D | change Int | change Bool | change Nat | change Sl | change Str | change List Rat | change Rat | change Value | change Addr | change List (Str × D) | change Option Int); rotate_left)); (focus ((repeat (with_reducible first | exact Slot.z | apply Slot.s)); done)); (repeat ((with_reducible first | change Rho | change D | change Res | change List D | change Int | change Bool | change Nat | change Sl | change Str | change List Rat | change Rat | change Value | change Addr | change List (Str × D) | change Option Int); rotate_left)); (focus ((repeat (with_reducible first | exact Put.z | apply Put.s)); done))) | exact a_globI (by assumption) (by with_reducible assumption) | exact a_glob (by assumption) (by with_reducible assumption) | (with_reducible change PDV _ (Expr.Name "int" _) _ _ _); exact a_tyInt (by assumption) (by assumption) | (with_reducible change PDV _ (Expr.Name "bool" _) _ _ _); exact a_tyBool (by assumption) (by assumption) | (with_reducible change PDV _ (Expr.Name "str" _) _ _ _); exact a_tyStr (by assumption) (by assumption) | (with_reducible change PDV _ (Expr.Name "list" _) _ _ _); exact a_tyList (by assumption) (by assumption) | (with_reducible change PDV _ (Expr.Name "tuple" _) _ _ _); exact a_tyTuple (by assumption) (by assumption) | (with_reducible change PDV _ (Expr.Name "dict" _) _ _ _); exact a_tyDict (by assumption) (by assumption)))
    | ((with_reducible change PDV _ _ _ _ _); (first | eq_refl | (refine' a_toV ?_ ?_; (repeat ((with_reducible first | change Rho | change D | change Res | change List D | change Int | change Bool | change Nat | change Sl | change Str | change List Rat | change Rat | change Value | change Addr | change List (Str × D) | change Option Int); rotate_left)))))))
local macro_rules | `(tactic| ac_rfl) => `(tactic| ((with_reducible change Put _ _ _ _ _ _); first
    | ((with_reducible change Put _ _ _ _ _ _); (first | (focus ((repeat (with_reducible first | exact Put.z | apply Put.s)); done)) | (focus ((repeat (first | exact Put.z | apply Put.s)); done))))))
local macro_rules | `(tactic| ac_rfl) => `(tactic| ((with_reducible change Slot _ _ _ _ _); first
    | ((with_reducible change Slot _ _ _ _ _); (focus ((repeat (with_reducible first | exact Slot.z | apply Slot.s)); done)))))
local macro_rules | `(tactic| ac_rfl) => `(tactic| (with_reducible exact ToV.o))
local macro_rules | `(tactic| ac_rfl) => `(tactic| (with_reducible exact ToV.v))
local macro_rules | `(tactic| ac_rfl) => `(tactic| (with_reducible exact SlOf.o))
local macro_rules | `(tactic| ac_rfl) => `(tactic| (with_reducible exact SlOf.v))
section
set_option Elab.async false
set_option linter.all false
set_option maxRecDepth 100000
set_option maxHeartbeats 2000000
namespace Dn
open PySem PySem.Spec L2
/-! ### the text by places -/
def top (i : Nat) : Stmt := PySem.Challenge.pw_straightened_k13_whole_lines_divided.main.body.getD i (.Pass ⟨0, 0, 0, 0⟩)
abbrev s_is_integer : Stmt := top 12
theorem cs_is_integer : FnScope ["value"] ["value"] (defScope s_is_integer) := ⟨rfl, rfl, rfl, by decide +kernel, rfl, by decide +kernel, by decide +kernel⟩
abbrev s_is_list : Stmt := top 13
theorem cs_is_list : FnScope ["value"] ["value"] (defScope s_is_list) := ⟨rfl, rfl, rfl, by decide +kernel, rfl, by decide +kernel, by decide +kernel⟩
abbrev s_want_at_most : Stmt := top 14
theorem cs_want_at_most : FnScope ["what", "limit", "number"] ["what", "limit", "number"] (defScope s_want_at_most) := ⟨rfl, rfl, rfl, by decide +kernel, rfl, by decide +kernel, by decide +kernel⟩
abbrev s_digits_of : Stmt := top 17
theorem cs_digits_of : FnScope ["number", "left", "told", "part", "sign"] ["number"] (defScope s_digits_of) := ⟨rfl, rfl, rfl, by decide +kernel, rfl, by decide +kernel, by decide +kernel⟩
abbrev s_common_part : Stmt := top 18
theorem cs_common_part : FnScope ["one", "other"] ["one", "other"] (defScope s_common_part) := ⟨rfl, rfl, rfl, by decide +kernel, rfl, by decide +kernel, by decide +kernel⟩
abbrev s_Ratio_init : Stmt := inClass (top 19) 0
theorem cs_Ratio_init : FnScope ["self", "top", "bottom", "common"] ["self", "top", "bottom"] (defScope s_Ratio_init) := ⟨rfl, rfl, rfl, by decide +kernel, rfl, by decide +kernel, by decide +kernel⟩
abbrev s_Ratio_add : Stmt := inClass (top 19) 6
theorem cs_Ratio_add : FnScope ["self", "other", "top", "bottom"] ["self", "other"] (defScope s_Ratio_add) := ⟨rfl, rfl, rfl, by decide +kernel, rfl, by decide +kernel, by decide +kernel⟩
abbrev s_Ratio_sub : Stmt := inClass (top 19) 8
theorem cs_Ratio_sub : FnScope ["self", "other", "top", "bottom"] ["self", "other"] (defScope s_Ratio_sub) := ⟨rfl, rfl, rfl, by decide +kernel, rfl, by decide +kernel, by decide +kernel⟩
abbrev s_Ratio_mul : Stmt := inClass (top 19) 10
theorem cs_Ratio_mul : FnScope ["self", "other", "top", "bottom"] ["self", "other"] (defScope s_Ratio_mul) := ⟨rfl, rfl, rfl, by decide +kernel, rfl, by decide +kernel, by decide +kernel⟩
abbrev s_Ratio_over : Stmt := inClass (top 19) 13
theorem cs_Ratio_over : FnScope ["self", "other", "top", "bottom"] ["self", "other"] (defScope s_Ratio_over) := ⟨rfl, rfl, rfl, by decide +kernel, rfl, by decide +kernel, by decide +kernel⟩
abbrev s_Ratio_eq : Stmt := inClass (top 19) 17
theorem cs_Ratio_eq : FnScope ["self", "other"] ["self", "other"] (defScope s_Ratio_eq) := ⟨rfl, rfl, rfl, by decide +kernel, rfl, by decide +kernel, by decide +kernel⟩
abbrev s_Ratio_repr : Stmt := inClass (top 19) 19
theorem cs_Ratio_repr : FnScope ["self"] ["self"] (defScope s_Ratio_repr) := ⟨rfl, rfl, rfl, by decide +kernel, rfl, by decide +kernel, by decide +kernel⟩
abbrev s_told_pair : Stmt := top 20
theorem cs_told_pair : FnScope ["value"] ["value"] (defScope s_told_pair) := ⟨rfl, rfl, rfl, by decide +kernel, rfl, by decide +kernel, by decide +kernel⟩
abbrev s_is_number : Stmt := top 21
theorem cs_is_number : FnScope ["value"] ["value"] (defScope s_is_number) := ⟨rfl, rfl, rfl, by decide +kernel, rfl, by decide +kernel, by decide +kernel⟩
abbrev s_ratio_of : Stmt := top 22
theorem cs_ratio_of : FnScope ["number"] ["number"] (defScope s_ratio_of) := ⟨rfl, rfl, rfl, by decide +kernel, rfl, by decide +kernel, by decide +kernel⟩
abbrev s_want_number : Stmt := top 23
theorem cs_want_number : FnScope ["value"] ["value"] (defScope s_want_number) := ⟨rfl, rfl, rfl, by decide +kernel, rfl, by decide +kernel, by decide +kernel⟩
abbrev s_wholes : Stmt := top 24
theorem cs_wholes : FnScope ["ratios", "bottom", "ratio"] ["ratios"] (defScope s_wholes) := ⟨rfl, rfl, rfl, by decide +kernel, rfl, by decide +kernel, by decide +kernel⟩
abbrev s_is_line : Stmt := top 27
theorem cs_is_line : FnScope ["value", "number"] ["value"] (defScope s_is_line) := ⟨rfl, rfl, rfl, by decide +kernel, rfl, by decide +kernel, by decide +kernel⟩
abbrev s_trimmed : Stmt := top 28
theorem cs_trimmed : FnScope ["ratios", "many"] ["ratios"] (defScope s_trimmed) := ⟨rfl, rfl, rfl, by decide +kernel, rfl, by decide +kernel, by decide +kernel⟩
abbrev s_want_line : Stmt := top 29
theorem cs_want_line : FnScope ["value", "number"] ["value"] (defScope s_want_line) := ⟨rfl, rfl, rfl, by decide +kernel, rfl, by decide +kernel, by decide +kernel⟩
abbrev s_line_over : Stmt := top 30
theorem cs_line_over : FnScope ["tops", "bottom", "top"] ["tops", "bottom"] (defScope s_line_over) := ⟨rfl, rfl, rfl, by decide +kernel, rfl, by decide +kernel, by decide +kernel⟩
abbrev s_line_sum : Stmt := top 31
theorem cs_line_sum : FnScope ["one", "other", "near", "far", "at"] ["one", "other"] (defScope s_line_sum) := ⟨rfl, rfl, rfl, by decide +kernel, rfl, by decide +kernel, by decide +kernel⟩
abbrev s_line_by : Stmt := top 32
theorem cs_line_by : FnScope ["line", "ratio", "number"] ["line", "ratio"] (defScope s_line_by) := ⟨rfl, rfl, rfl, by decide +kernel, rfl, by decide +kernel, by decide +kernel⟩
abbrev s_line_product : Stmt := top 33
theorem cs_line_product : FnScope ["one", "other", "low", "near", "deep", "far", "found", "at", "left", "to", "right"] ["one", "other"] (defScope s_line_product) := ⟨rfl, rfl, rfl, by decide +kernel, rfl, by decide +kernel, by decide +kernel⟩
abbrev s_line_parts : Stmt := top 34
theorem cs_line_parts : FnScope ["one", "other", "rest", "quotient", "shift", "factor", "at"] ["one", "other"] (defScope s_line_parts) := ⟨rfl, rfl, rfl, by decide +kernel, rfl, by decide +kernel, by decide +kernel⟩
abbrev s_line_led : Stmt := top 35
theorem cs_line_led : FnScope ["line", "number"] ["line"] (defScope s_line_led) := ⟨rfl, rfl, rfl, by decide +kernel, rfl, by decide +kernel, by decide +kernel⟩
abbrev s_line_common : Stmt := top 36
theorem cs_line_common : FnScope ["one", "other", "rest"] ["one", "other"] (defScope s_line_common) := ⟨rfl, rfl, rfl, by decide +kernel, rfl, by decide +kernel, by decide +kernel⟩
abbrev s_degree_from_nought : Stmt := top 37
theorem cs_degree_from_nought : FnScope ["line"] ["line"] (defScope s_degree_from_nought) := ⟨rfl, rfl, rfl, by decide +kernel, rfl, by decide +kernel, by decide +kernel⟩
abbrev s_told : Stmt := top 38
theorem cs_told : FnScope ["line"] ["line"] (defScope s_told) := ⟨rfl, rfl, rfl, by decide +kernel, rfl, by decide +kernel, by decide +kernel⟩
abbrev s_degree : Stmt := top 39
theorem cs_degree : FnScope ["line"] ["line"] (defScope s_degree) := ⟨rfl, rfl, rfl, by decide +kernel, rfl, by decide +kernel, by decide +kernel⟩
abbrev s_two_lines : Stmt := top 40
theorem cs_two_lines : FnScope ["line", "other", "first"] ["line", "other"] (defScope s_two_lines) := ⟨rfl, rfl, rfl, by decide +kernel, rfl, by decide +kernel, by decide +kernel⟩
abbrev s_plus : Stmt := top 41
theorem cs_plus : FnScope ["line", "other", "first", "second"] ["line", "other"] (defScope s_plus) := ⟨rfl, rfl, rfl, by decide +kernel, rfl, by decide +kernel, by decide +kernel⟩
abbrev s_times : Stmt := top 42
theorem cs_times : FnScope ["line", "other", "first", "second"] ["line", "other"] (defScope s_times) := ⟨rfl, rfl, rfl, by decide +kernel, rfl, by decide +kernel, by decide +kernel⟩
abbrev s_scaled : Stmt := top 43
theorem cs_scaled : FnScope ["line", "number", "found"] ["line", "number"] (defScope s_scaled) := ⟨rfl, rfl, rfl, by decide +kernel, rfl, by decide +kernel, by decide +kernel⟩
abbrev s_divided : Stmt := top 44
theorem cs_divided : FnScope ["line", "other", "first", "second"] ["line", "other"] (defScope s_divided) := ⟨rfl, rfl, rfl, by decide +kernel, rfl, by decide +kernel, by decide +kernel⟩
abbrev s_common : Stmt := top 45
theorem cs_common : FnScope ["line", "other", "first", "second"] ["line", "other"] (defScope s_common) := ⟨rfl, rfl, rfl, by decide +kernel, rfl, by decide +kernel, by decide +kernel⟩
abbrev s_law_pot : Stmt := top 47
theorem cs_law_pot : FnScope ["_law_script", "_law_k", "_law_cell"] ["_law_script", "_law_k"] (defScope s_law_pot) := ⟨rfl, rfl, rfl, by decide +kernel, rfl, by decide +kernel, by decide +kernel⟩
abbrev s_law_draw : Stmt := top 48
theorem cs_law_draw : FnScope ["_law_pot_here", "_law_many", "_law_digit"] ["_law_pot_here", "_law_many"] (defScope s_law_draw) := ⟨rfl, rfl, rfl, by decide +kernel, rfl, by decide +kernel, by decide +kernel⟩
abbrev s_law_pick : Stmt := top 49
theorem cs_law_pick : FnScope ["_law_pot_here", "_law_some"] ["_law_pot_here", "_law_some"] (defScope s_law_pick) := ⟨rfl, rfl, rfl, by decide +kernel, rfl, by decide +kernel, by decide +kernel⟩
abbrev s_law_low : Stmt := top 50
theorem cs_law_low : FnScope ["_law_top", "_law_bottom", "_law_one", "_law_other"] ["_law_top", "_law_bottom"] (defScope s_law_low) := ⟨rfl, rfl, rfl, by decide +kernel, rfl, by decide +kernel, by decide +kernel⟩
abbrev s_law_sum : Stmt := top 51
theorem cs_law_sum : FnScope ["_law_one", "_law_other"] ["_law_one", "_law_other"] (defScope s_law_sum) := ⟨rfl, rfl, rfl, by decide +kernel, rfl, by decide +kernel, by decide +kernel⟩
abbrev s_law_by : Stmt := top 52
theorem cs_law_by : FnScope ["_law_one", "_law_other"] ["_law_one", "_law_other"] (defScope s_law_by) := ⟨rfl, rfl, rfl, by decide +kernel, rfl, by decide +kernel, by decide +kernel⟩
abbrev s_law_number : Stmt := top 53
theorem cs_law_number : FnScope ["_law_pot_here", "_law_most"] ["_law_pot_here", "_law_most"] (defScope s_law_number) := ⟨rfl, rfl, rfl, by decide +kernel, rfl, by decide +kernel, by decide +kernel⟩
abbrev s_law_ratio : Stmt := top 54
theorem cs_law_ratio : FnScope ["_law_pair"] ["_law_pair"] (defScope s_law_ratio) := ⟨rfl, rfl, rfl, by decide +kernel, rfl, by decide +kernel, by decide +kernel⟩
abbrev s_law_passed : Stmt := top 55
theorem cs_law_passed : FnScope ["_law_pot_here", "_law_pair"] ["_law_pot_here", "_law_pair"] (defScope s_law_passed) := ⟨rfl, rfl, rfl, by decide +kernel, rfl, by decide +kernel, by decide +kernel⟩
abbrev s_law_trim : Stmt := top 56
theorem cs_law_trim : FnScope ["_law_line_here", "_law_many"] ["_law_line_here"] (defScope s_law_trim) := ⟨rfl, rfl, rfl, by decide +kernel, rfl, by decide +kernel, by decide +kernel⟩
abbrev s_law_line : Stmt := top 57
theorem cs_law_line : FnScope ["_law_pot_here", "_law_most", "_law_at"] ["_law_pot_here", "_law_most"] (defScope s_law_line) := ⟨rfl, rfl, rfl, by decide +kernel, rfl, by decide +kernel, by decide +kernel⟩
abbrev s_law_given : Stmt := top 58
theorem cs_law_given : FnScope ["_law_pot_here", "_law_line_here", "_law_found", "_law_one"] ["_law_pot_here", "_law_line_here"] (defScope s_law_given) := ⟨rfl, rfl, rfl, by decide +kernel, rfl, by decide +kernel, by decide +kernel⟩
abbrev s_law_line_sum : Stmt := top 59
theorem cs_law_line_sum : FnScope ["_law_one", "_law_other", "_law_found", "_law_at"] ["_law_one", "_law_other"] (defScope s_law_line_sum) := ⟨rfl, rfl, rfl, by decide +kernel, rfl, by decide +kernel, by decide +kernel⟩
abbrev s_law_line_scaled : Stmt := top 60
theorem cs_law_line_scaled : FnScope ["_law_one", "_law_number_here", "_law_part"] ["_law_one", "_law_number_here"] (defScope s_law_line_scaled) := ⟨rfl, rfl, rfl, by decide +kernel, rfl, by decide +kernel, by decide +kernel⟩
abbrev s_law_is_line : Stmt := top 63
theorem cs_law_is_line : FnScope ["_law_kept", "_law_line_here", "_law_one"] ["_law_kept", "_law_line_here"] (defScope s_law_is_line) := ⟨rfl, rfl, rfl, by decide +kernel, rfl, by decide +kernel, by decide +kernel⟩
abbrev s_law_over : Stmt := top 64
theorem cs_law_over : FnScope ["_law_one", "_law_other"] ["_law_one", "_law_other"] (defScope s_law_over) := ⟨rfl, rfl, rfl, by decide +kernel, rfl, by decide +kernel, by decide +kernel⟩
abbrev s_law_divided : Stmt := top 65
theorem cs_law_divided : FnScope ["_law_line_here", "_law_other", "_law_left", "_law_found", "_law_number_here", "_law_at"] ["_law_line_here", "_law_other"] (defScope s_law_divided) := ⟨rfl, rfl, rfl, by decide +kernel, rfl, by decide +kernel, by decide +kernel⟩
abbrev s_law_common : Stmt := top 66
theorem cs_law_common : FnScope ["_law_one", "_law_other"] ["_law_one", "_law_other"] (defScope s_law_common) := ⟨rfl, rfl, rfl, by decide +kernel, rfl, by decide +kernel, by decide +kernel⟩
abbrev s_law_quotient_right : Stmt := top 67
theorem cs_law_quotient_right : FnScope ["_law_pot_here", "_law_line_here", "_law_other", "_law_near", "_law_far", "_law_shown", "_law_found", "_law_due"] ["_law_pot_here", "_law_line_here", "_law_other"] (defScope s_law_quotient_right) := ⟨rfl, rfl, rfl, by decide +kernel, rfl, by decide +kernel, by decide +kernel⟩
abbrev s_law_common_right : Stmt := top 68
theorem cs_law_common_right : FnScope ["_law_pot_here", "_law_one", "_law_other", "_law_near", "_law_far", "_law_found", "_law_number_here"] ["_law_pot_here", "_law_one", "_law_other"] (defScope s_law_common_right) := ⟨rfl, rfl, rfl, by decide +kernel, rfl, by decide +kernel, by decide +kernel⟩
abbrev s_law_shared_right : Stmt := top 69
theorem cs_law_shared_right : FnScope ["_law_pot_here", "_law_one", "_law_other", "_law_shared", "_law_near", "_law_far", "_law_some", "_law_both", "_law_rest", "_law_line_here"] ["_law_pot_here", "_law_one", "_law_other", "_law_shared"] (defScope s_law_shared_right) := ⟨rfl, rfl, rfl, by decide +kernel, rfl, by decide +kernel, by decide +kernel⟩
abbrev s_law_right : Stmt := top 70
theorem cs_law_right : FnScope ["_law_pot_here", "_law_one", "_law_other", "_law_shared", "_law_pairs"] ["_law_pot_here"] (defScope s_law_right) := ⟨rfl, rfl, rfl, by decide +kernel, rfl, by decide +kernel, by decide +kernel⟩
abbrev s_law : Stmt := top 71
theorem cs_law : FnScope ["_law_script"] ["_law_script"] (defScope s_law) := ⟨rfl, rfl, rfl, by decide +kernel, rfl, by decide +kernel, by decide +kernel⟩
end Dn
end
section
set_option Elab.async false
set_option linter.all false
set_option maxRecDepth 100000
set_option maxHeartbeats 2000000
namespace Dn
open PySem PySem.Spec L2
/-! ### facts of the text -/
/-- no name of the module hides these built-ins -/
structure Bi (mg : Str → Option Value) : Prop where
  isi : mg "isinstance" = none
  int : mg "int" = none
  bool : mg "bool" = none
  abs : mg "abs" = none
  str : mg "str" = none
  list : mg "list" = none
  tuple : mg "tuple" = none
/-- the class of ratios -/
structure Rc (K : PySem.W.Frag) (mg : Str → Option Value) (C : Addr) : Prop where
  cl : Cls K C
  nT : NoAttr K C "own_top"
  nB : NoAttr K C "own_bottom"
  at_ : mg "Ratio" = some (.ref C)
  ca : PySem.W.findIn K (.ref C) "__class__" = some (some (.builtin "object.__class__"))
  cn : PySem.W.specialIn K (.builtin "object.__class__") "__get__" = some (some (.builtin "getset_descriptor.__get__"))
  ct : PySem.W.takesIn K (.builtin "object.__class__") = some true
  cm : PySem.W.mroIn K C (.type "object") = some true
  oi : PySem.W.kitOne K (.ref C) (.type "int") = some false
  oo : PySem.W.kitOne K (.ref C) (.ref C) = some true
  io : PySem.W.kitOne K (.type "int") (.ref C) = some false
  ii : PySem.W.kitOne K (.type "int") (.type "int") = some true
  ib : PySem.W.kitOne K (.type "int") (.type "bool") = some false
theorem Rc.ty {K : PySem.W.Frag} {mg : Str → Option Value} {C : Addr} (R : Rc K mg C) (fs : List (Str × D)) : TyD K (.obj C fs) (.ref C) := .obj fs R.cl R.ca R.cn R.ct R.cm
/-- a number: a ratio, or an int -/
inductive Num (C : Addr) : D → Rat → Prop where
  | q (x : Rat) : Num C (qD C x) x
  | i (n : Int) : Num C (.int n) (n : Rat)
theorem ptd_eq {X : Cx} {e : Expr} {ρ ρ1 : Rho} {k k' : Bool} (h : PTD X e ρ k ρ1) (q : k = k') : PTD X e ρ k' ρ1 := q ▸ h
theorem ptd_notF {X : Cx} {e : Expr} {ρ ρ1 : Rho} {pos : Pos} (h : PTD X e ρ true ρ1) : PTD X (.UnaryOp .Not e pos) ρ false ρ1 := ptd_not h
theorem ptd_notT {X : Cx} {e : Expr} {ρ ρ1 : Rho} {pos : Pos} (h : PTD X e ρ false ρ1) : PTD X (.UnaryOp .Not e pos) ρ true ρ1 := ptd_not h
/-- x, y = e of one pair -/
theorem ps1_two {X : Cx} {bi : Bool} {ρ ρ1 : Rho} {k : Kn} {x y : Str} {px py pt pos : Pos} {kt : Nat} {e : Expr} {d d' : D} (i j : Nat) (hN : X.N.Nodup) (he : PD X e ρ (.val (.tup [d, d'])) ρ1) (hk : k.nx ((ρ1.set i (.val d)).set j (.val d')) := by rfl) (hc : X.calm = true := by rfl) (hi : X.N[i]? = some x := by rfl) (hj : X.N[j]? = some y := by rfl)
    (hx : Loc X.env.scope x := by first | exact Or.inl rfl | exact Or.inr rfl) (hy : Loc X.env.scope y := by first | exact Or.inl rfl | exact Or.inr rfl) (hio : i ≠ 0 ∨ bi = false := by first | exact Or.inl (by decide) | exact Or.inr rfl) (hjo : j ≠ 0 ∨ bi = false := by first | exact Or.inl (by decide) | exact Or.inr rfl)
    (hxf : X.fn x = true ∨ X.env.scope.names.lookup x = some .local := by first | exact .inl rfl | exact .inr rfl) (hyf : X.fn y = true ∨ X.env.scope.names.lookup y = some .local := by first | exact .inl rfl | exact .inr rfl) (hs : swapsWithSole [.Tuple [.Name x px, .Name y py] kt pt] e pos.line X.env = pure false := by rfl) (hw : swappedStores [.Tuple [.Name x px, .Name y py] kt pt] e X.env = pure none := by rfl) : PS1 X bi (.Assign [.Tuple [.Name x px, .Name y py] kt pt] e pos) ρ k :=
  ps1_asg he (pgd_tup hc (pgd_cons (pgd_name i hN hi hx hio hxf) (pgd_cons (pgd_name j hN hj hy hjo hyf) pgd_nil))) ⟨_, .inl rfl, rfl, _, _, _, rfl, rfl, _, _, _, rfl, rfl, rfl, rfl⟩ hk hs hw
theorem num_ne {y : Rat} (h : y ≠ 0) : y.num ≠ 0 := fun e => h (Rat.num_eq_zero.mp e)
section
variable {P : Program} {w : World} {K : PySem.W.Frag} {mg : Str → Option Value} {base : Heap} {f C : Addr} {fd : FuncData}
def S_is_integer (C : Addr) : List D → Res → Prop := fun ds r => ∃ d x, ds = [d] ∧ Num C d x ∧ r = .val (.bl (match d with | .int _ => true | _ => false))
theorem ok_is_integer (F : FunG K "is_integer" "is_integer" s_is_integer f fd) (B : Bi mg) (R : Rc K mg C) : FnB false P w K mg base 1 f fd ["value"] (spD K (S_is_integer C)) := by
  refine fnD F cs_is_integer (fun ds r ⟨_, _, h, _⟩ => by rw [h]; rfl) (fun cdv A outer s H hr nog ds r h => ?_)
  obtain ⟨d, x, rfl, hn, rfl⟩ := h
  cases hn with
  | q x =>
    refine psd_ret (pd_and (k := false) (l := false) (pd_callB (cd_isi (R.ty _) (.ty _) R.oi) B.isi (pad_cons (pd_var 0) (pad_cons (pd_ty B.int) pad_nil))) fun z => nomatch z) rfl
  | i n =>
    refine psd_ret (pd_and (pd_callB (cd_isi (.int _) (.ty _) R.ii) B.isi (pad_cons (pd_var 0) (pad_cons (pd_ty B.int) pad_nil))) fun _ => pd_one (pd_not (pd_callB (cd_isi (.int _) (.ty _) R.ib) B.isi (pad_cons (pd_var 0) (pad_cons (pd_ty B.bool) pad_nil))))) rfl
def S_common_part : List D → Res → Prop := fun ds r => ∃ i j : Int, ds = [.int i, .int j] ∧ r = .val (.int ((Nat.gcd i.natAbs j.natAbs : Nat) : Int))
theorem ok_common_part (F : FunG K "common_part" "common_part" s_common_part f fd) (hg : mg "gcd" = some (.builtin "math.gcd")) : FnB false P w K mg base 1 f fd ["one", "other"] (spD K S_common_part) := by
  refine fnD F cs_common_part (fun ds r ⟨_, _, h, _⟩ => by rw [h]; rfl) (fun cdv A outer s H hr nog ds r h => ?_)
  obtain ⟨i, j, rfl, rfl⟩ := h
  exact psd_ret (pd_callG cd_gcd hg (pad_cons (pd_var 0) (pad_cons (pd_var 1) pad_nil))) rfl
def T_init (C : Addr) : D → List D → Res → D → Prop := fun c ds r c' => ∃ t b : Int, c = .obj C [] ∧ ds = [.int t, .int b] ∧ b ≠ 0 ∧ Bd 8000 b ∧ r = .val .non ∧ c' = qD C (Rat.divInt t b)
theorem ok_Ratio_init (F : FunG K "__init__" "Ratio.__init__" s_Ratio_init f fd) (R : Rc K mg C) (c1 : Cal false P w K mg base 1 "is_integer" (spD K (S_is_integer C)) []) (c2 : Cal false P w K mg base 1 "common_part" (spD K S_common_part) []) : FnB false P w K mg base 2 f fd ["self", "top", "bottom"] (spIO K (T_init C)) := by
  refine fnIO F cs_Ratio_init (fun c ds r c' ⟨_, _, _, h, _⟩ => by rw [h]; rfl) (fun cdv A outer s H hr nog c ds r c' h => ?_)
  obtain ⟨t, b, rfl, rfl, hb, hz, rfl, rfl⟩ := h
  obtain ⟨e1, e2⟩ := low_both t b hb
  have cd := fun i => (sgcd_bd (t := t) hb hz).cdiv i (sgcd_ne hb)
  have nd := cs_Ratio_init.nd
  refine psd_skip (ptd_notF (ptd_bl (pd_call c1 hr (pad_cons (pd_var 1) pad_nil) ⟨_, _, rfl, .i t, rfl⟩))) ?_
  refine psd_skip (ptd_eq (pwd_or (ptd_notF (ptd_bl (pd_call c1 hr (pad_cons (pd_var 2) pad_nil) ⟨_, _, rfl, .i b, rfl⟩))) fun _ => pwd_or1 (ptd_cmp (pd_var 2) pd_int bd_eqI rfl)).pt (by simpa using hb)) ?_
  refine psd_st (ps1_set 3 nd (pd_call c2 hr (pad_cons (pd_var 1) (pad_cons (pd_var 2) pad_nil)) ⟨_, _, rfl, rfl⟩)) ?_
  by_cases n : b < 0
  · have hs : sgcd t b = 0 - ((Nat.gcd t.natAbs b.natAbs : Nat) : Int) := if_pos n
    rw [hs] at cd e1 e2
    refine psd_ifT (ptd_eq (ptd_cmp (pd_var 2) pd_int bd_lt rfl) (decide_eq_true n)) (psd_st (ps1_set 3 nd (pd_bin pd_int (pd_var 3) bd_sub)) (psd_nil ?_))
    refine psd_st (ps1_fld 0 R.cl R.nT (pd_bin (pd_var 1) (pd_var 3) (bd_divA (cd _)))) (psd_st (ps1_fld 0 R.cl R.nB (pd_bin (pd_var 2) (pd_var 3) (bd_divA (cd _)))) (psd_nil ⟨rfl, ?_⟩))
    rw [qD, ← e1, ← e2]
    rfl
  · have hs : sgcd t b = ((Nat.gcd t.natAbs b.natAbs : Nat) : Int) := if_neg n
    rw [hs] at cd e1 e2
    refine psd_skip (ptd_eq (ptd_cmp (pd_var 2) pd_int bd_lt rfl) (decide_eq_false n)) ?_
    refine psd_st (ps1_fld 0 R.cl R.nT (pd_bin (pd_var 1) (pd_var 3) (bd_divA (cd _)))) (psd_st (ps1_fld 0 R.cl R.nB (pd_bin (pd_var 2) (pd_var 3) (bd_divA (cd _)))) (psd_nil ⟨rfl, ?_⟩))
    rw [qD, ← e1, ← e2]
    rfl
def S_told_pair (C : Addr) : List D → Res → Prop := fun ds r => ∃ d x, ds = [d] ∧ Num C d x ∧ r = .val (qP x)
theorem qP_int (n : Int) : qP (n : Rat) = .tup [.int n, .int 1] := by simp [qP]
theorem ok_told_pair (F : FunG K "told_pair" "told_pair" s_told_pair f fd) (B : Bi mg) (R : Rc K mg C) (c1 : Cal false P w K mg base 1 "is_integer" (spD K (S_is_integer C)) []) : FnB false P w K mg base 2 f fd ["value"] (spD K (S_told_pair C)) := by
  refine fnD F cs_told_pair (fun ds r ⟨_, _, h, _⟩ => by rw [h]; rfl) (fun cdv A outer s H hr nog ds r h => ?_)
  obtain ⟨d, x, rfl, hn, rfl⟩ := h
  cases hn with
  | q x =>
    refine psd_ifT (ptd_bl (pd_callB (cd_isi (R.ty _) (.own C) R.oo) B.isi (pad_cons (pd_var 0) (pad_cons (pd_glob R.at_) pad_nil)))) (psd_ret (pd_tup (pad_cons (pd_fld (pd_var 0) R.cl R.nT rfl) (pad_cons (pd_fld (pd_var 0) R.cl R.nB rfl) pad_nil))) rfl)
  | i n =>
    refine psd_skip (ptd_bl (pd_callB (cd_isi (.int n) (.own C) R.io) B.isi (pad_cons (pd_var 0) (pad_cons (pd_glob R.at_) pad_nil)))) ?_
    refine psd_skip (ptd_notF (ptd_bl (pd_call c1 hr (pad_cons (pd_var 0) pad_nil) ⟨_, _, rfl, .i n, rfl⟩))) ?_
    rw [qP_int]
    exact psd_ret (pd_tup (pad_cons (pd_var 0) (pad_cons pd_int pad_nil))) rfl
/-- an operator of a ratio and a number -/
def S_op (C : Addr) (c : Rat → Rat → Prop) (g : Rat → Rat → Rat) : List D → Res → Prop := fun ds r => ∃ x d y, ds = [qD C x, d] ∧ Num C d y ∧ Sz 3800 x ∧ Sz 3800 y ∧ c x y ∧ r = .own (qD C (g x y))
theorem ok_Ratio_add (F : FunG K "__add__" "Ratio.__add__" s_Ratio_add f fd) (R : Rc K mg C) (c1 : Cal false P w K mg base 2 "told_pair" (spD K (S_told_pair C)) []) (mk : Mak P w K mg base 2 "Ratio" C (spIO K (T_init C)) []) : FnB false P w K mg base 4 f fd ["self", "other"] (spD K (S_op C (fun x y => True) fun x y => x + y)) := by
  refine fnD F cs_Ratio_add (fun ds r ⟨_, _, _, h, _⟩ => by rw [h]; rfl) (fun cdv A outer s H hr nog ds r h => ?_)
  obtain ⟨x, d, y, rfl, hn, hx, hy, hc, rfl⟩ := h
  refine psd_st (ps1_two 2 3 cs_Ratio_add.nd (pd_call c1 hr (pad_cons (pd_var 1) pad_nil) ⟨_, _, rfl, hn, rfl⟩)) ?_
  refine psd_ret (pd_make mk hr (pad_cons (pd_bin (pd_bin (pd_fld (pd_var 0) R.cl R.nT rfl) (pd_var 3) (bd_mul (hx.1.cmul hy.2))) (pd_bin (pd_var 2) (pd_fld (pd_var 0) R.cl R.nB rfl) (bd_mul (hy.1.cmul hx.2))) bd_add) (pad_cons (pd_bin (pd_fld (pd_var 0) R.cl R.nB rfl) (pd_var 3) (bd_mul (hx.2.cmul hy.2))) pad_nil)) ⟨_, _, rfl, rfl, mul_ne (den_ne x) (den_ne y), Bd.mono (hx.2.mul hy.2) (by decide), rfl, rfl⟩) ?_
  exact congrArg (fun q => Res.own (qD C q)) (of_add x y)
theorem ok_Ratio_sub (F : FunG K "__sub__" "Ratio.__sub__" s_Ratio_sub f fd) (R : Rc K mg C) (c1 : Cal false P w K mg base 2 "told_pair" (spD K (S_told_pair C)) []) (mk : Mak P w K mg base 2 "Ratio" C (spIO K (T_init C)) []) : FnB false P w K mg base 4 f fd ["self", "other"] (spD K (S_op C (fun x y => True) fun x y => x - y)) := by
  refine fnD F cs_Ratio_sub (fun ds r ⟨_, _, _, h, _⟩ => by rw [h]; rfl) (fun cdv A outer s H hr nog ds r h => ?_)
  obtain ⟨x, d, y, rfl, hn, hx, hy, hc, rfl⟩ := h
  refine psd_st (ps1_two 2 3 cs_Ratio_sub.nd (pd_call c1 hr (pad_cons (pd_var 1) pad_nil) ⟨_, _, rfl, hn, rfl⟩)) ?_
  refine psd_ret (pd_make mk hr (pad_cons (pd_bin (pd_bin (pd_fld (pd_var 0) R.cl R.nT rfl) (pd_var 3) (bd_mul (hx.1.cmul hy.2))) (pd_bin (pd_var 2) (pd_fld (pd_var 0) R.cl R.nB rfl) (bd_mul (hy.1.cmul hx.2))) bd_sub) (pad_cons (pd_bin (pd_fld (pd_var 0) R.cl R.nB rfl) (pd_var 3) (bd_mul (hx.2.cmul hy.2))) pad_nil)) ⟨_, _, rfl, rfl, mul_ne (den_ne x) (den_ne y), Bd.mono (hx.2.mul hy.2) (by decide), rfl, rfl⟩) ?_
  exact congrArg (fun q => Res.own (qD C q)) (of_sub x y)
theorem ok_Ratio_mul (F : FunG K "__mul__" "Ratio.__mul__" s_Ratio_mul f fd) (R : Rc K mg C) (c1 : Cal false P w K mg base 2 "told_pair" (spD K (S_told_pair C)) []) (mk : Mak P w K mg base 2 "Ratio" C (spIO K (T_init C)) []) : FnB false P w K mg base 4 f fd ["self", "other"] (spD K (S_op C (fun x y => True) fun x y => x * y)) := by
  refine fnD F cs_Ratio_mul (fun ds r ⟨_, _, _, h, _⟩ => by rw [h]; rfl) (fun cdv A outer s H hr nog ds r h => ?_)
  obtain ⟨x, d, y, rfl, hn, hx, hy, hc, rfl⟩ := h
  refine psd_st (ps1_two 2 3 cs_Ratio_mul.nd (pd_call c1 hr (pad_cons (pd_var 1) pad_nil) ⟨_, _, rfl, hn, rfl⟩)) ?_
  refine psd_ret (pd_make mk hr (pad_cons (pd_bin (pd_fld (pd_var 0) R.cl R.nT rfl) (pd_var 2) (bd_mul (hx.1.cmul hy.1))) (pad_cons (pd_bin (pd_fld (pd_var 0) R.cl R.nB rfl) (pd_var 3) (bd_mul (hx.2.cmul hy.2))) pad_nil)) ⟨_, _, rfl, rfl, mul_ne (den_ne x) (den_ne y), Bd.mono (hx.2.mul hy.2) (by decide), rfl, rfl⟩) ?_
  exact congrArg (fun q => Res.own (qD C q)) (of_mul x y)
theorem ok_Ratio_over (F : FunG K "over" "Ratio.over" s_Ratio_over f fd) (R : Rc K mg C) (c1 : Cal false P w K mg base 2 "told_pair" (spD K (S_told_pair C)) []) (mk : Mak P w K mg base 2 "Ratio" C (spIO K (T_init C)) []) : FnB false P w K mg base 4 f fd ["self", "other"] (spD K (S_op C (fun x y => y ≠ 0) fun x y => x / y)) := by
  refine fnD F cs_Ratio_over (fun ds r ⟨_, _, _, h, _⟩ => by rw [h]; rfl) (fun cdv A outer s H hr nog ds r h => ?_)
  obtain ⟨x, d, y, rfl, hn, hx, hy, hc, rfl⟩ := h
  refine psd_st (ps1_two 2 3 cs_Ratio_over.nd (pd_call c1 hr (pad_cons (pd_var 1) pad_nil) ⟨_, _, rfl, hn, rfl⟩)) ?_
  refine psd_skip (ptd_eq (ptd_cmp (pd_var 2) pd_int bd_eqI rfl) (decide_eq_false (num_ne hc))) ?_
  refine psd_ret (pd_make mk hr (pad_cons (pd_bin (pd_fld (pd_var 0) R.cl R.nT rfl) (pd_var 3) (bd_mul (hx.1.cmul hy.2))) (pad_cons (pd_bin (pd_fld (pd_var 0) R.cl R.nB rfl) (pd_var 2) (bd_mul (hx.2.cmul hy.1))) pad_nil)) ⟨_, _, rfl, rfl, mul_ne (den_ne x) (num_ne hc), Bd.mono (hx.2.mul hy.1) (by decide), rfl, rfl⟩) ?_
  exact congrArg (fun q => Res.own (qD C q)) (of_div x y)
/-- x == d: of a ratio, or of what is none -/
def S_eq (K : PySem.W.Frag) (C : Addr) : List D → Res → Prop := fun ds r => ∃ x d b, ds = [qD C x, d] ∧ r = .val (.bl b) ∧ ((∃ y, d = qD C y ∧ b = decide (x = y)) ∨ (b = false ∧ ∃ t, TyD K d t ∧ PySem.W.kitOne K t (.ref C) = some false))
theorem ok_Ratio_eq (F : FunG K "__eq__" "Ratio.__eq__" s_Ratio_eq f fd) (B : Bi mg) (R : Rc K mg C) : FnB false P w K mg base 1 f fd ["self", "other"] (spD K (S_eq K C)) := by
  refine fnD F cs_Ratio_eq (fun ds r ⟨_, _, _, h, _⟩ => by rw [h]; rfl) (fun cdv A outer s H hr nog ds r h => ?_)
  obtain ⟨x, d, b, rfl, rfl, ⟨y, rfl, rfl⟩ | ⟨rfl, t, ht, hk⟩⟩ := h
  · refine psd_skip (ptd_notF (ptd_bl (pd_callB (cd_isi (R.ty _) (.own C) R.oo) B.isi (pad_cons (pd_var 1) (pad_cons (pd_glob R.at_) pad_nil))))) ?_
    refine psd_ret (pd_and (pd_cmp (pd_fld (pd_var 0) R.cl R.nT rfl) (pd_fld (pd_var 1) R.cl R.nT rfl) bd_eqI rfl) fun _ => pd_one (pd_cmp (pd_fld (pd_var 0) R.cl R.nB rfl) (pd_fld (pd_var 1) R.cl R.nB rfl) bd_eqI rfl)) ?_
    exact congrArg (fun q => Res.val (D.bl q)) q_eq
  · exact psd_ifT (ptd_notT (ptd_bl (pd_callB (cd_isi ht (.own C) hk) B.isi (pad_cons (pd_var 1) (pad_cons (pd_glob R.at_) pad_nil))))) (psd_ret pd_bl rfl)
/-! ### numbers wanted -/
def S_is_number (C : Addr) : List D → Res → Prop := fun ds r => ∃ d x, ds = [d] ∧ Num C d x ∧ r = .val (.bl true)
theorem ok_is_number (F : FunG K "is_number" "is_number" s_is_number f fd) (B : Bi mg) (R : Rc K mg C) (c1 : Cal false P w K mg base 1 "is_integer" (spD K (S_is_integer C)) []) : FnB false P w K mg base 2 f fd ["value"] (spD K (S_is_number C)) := by
  refine fnD F cs_is_number (fun ds r ⟨_, _, h, _⟩ => by rw [h]; rfl) (fun cdv A outer s H hr nog ds r h => ?_)
  obtain ⟨d, x, rfl, hn, rfl⟩ := h
  cases hn with
  | q x => exact psd_ret (pd_or (pd_call c1 hr (pad_cons (pd_var 0) pad_nil) ⟨_, _, rfl, .q x, rfl⟩) fun _ => pd_one (pd_callB (cd_isi (R.ty _) (.own C) R.oo) B.isi (pad_cons (pd_var 0) (pad_cons (pd_glob R.at_) pad_nil)))) rfl
  | i n => exact psd_ret (pd_or (l := false) (pd_call c1 hr (pad_cons (pd_var 0) pad_nil) ⟨_, _, rfl, .i n, rfl⟩) fun z => nomatch z) rfl
/-- a number in, the ratio out (as it stands, or new) -/
def S_want (C : Addr) : List D → Res → Prop := fun ds r => ∃ d x, ds = [d] ∧ Num C d x ∧ r = .val (qD C x)
end
end Dn
end
section
set_option Elab.async false
set_option linter.all false
set_option maxRecDepth 100000
set_option maxHeartbeats 2000000
namespace Dn
open PySem PySem.Spec L2
theorem lens2 {x y : Str} (h : x.length + y.length ≤ 1000000) : lensD Str.empty [x, y] := by
  have e : (Str.empty : Str).length = 0 := rfl
  refine ⟨?_, ?_, trivial⟩
  · rw [strLen_append, e]; omega
  · rw [strLen_append, strLen_append, e]; omega
theorem lens3 {x y z : Str} (h : x.length + y.length + z.length ≤ 1000000) : lensD Str.empty [x, y, z] := by
  have e : (Str.empty : Str).length = 0 := rfl
  refine ⟨?_, ?_, ?_, trivial⟩
  · rw [strLen_append, e]; omega
  · rw [strLen_append, strLen_append, e]; omega
  · rw [strLen_append, strLen_append, strLen_append, e]; omega
theorem str_assoc (a b c : Str) : (a ++ b) ++ c = a ++ (b ++ c) := by
  show Str.mk ((a.cps ++ b.cps) ++ c.cps) = Str.mk (a.cps ++ (b.cps ++ c.cps))
  rw [Array.append_assoc]
theorem sx_nil : (Str.empty : Str) = sx [] := rfl
section
variable {P : Program} {w : World} {K : PySem.W.Frag} {mg : Str → Option Value} {base : Heap} {f C : Addr} {fd : FuncData}
def S_digits : List D → Res → Prop := fun ds r => ∃ n : Int, ds = [.int n] ∧ Bd 1900 n ∧ r = .val (.str (Str.ofString (toString n)))
theorem ok_digits_of {t : Tok} (F : FunG K "digits_of" "digits_of" s_digits_of f fd) (B : Bi mg) (hP : mg "PART" = some (.int (10 ^ 60) t)) : FnB false P w K mg base 1 f fd ["number"] (spD K S_digits) := by
  refine fnD F cs_digits_of (fun ds r ⟨_, h, _⟩ => by rw [h]; rfl) (fun cdv A outer s H hr nog ds r h => ?_)
  obtain ⟨n, rfl, hz, rfl⟩ := h
  have nd := cs_digits_of.nd
  obtain ⟨m, hm⟩ : ∃ m : Nat, n.natAbs = m := ⟨_, rfl⟩
  have hbm : Bd 1900 (m : Int) := by rw [← hm]; exact hz
  have lm := dg_len (by decide) hbm
  refine psd_cons (fun ρ' => ρ' = [.val (.int n), .val (.int m), .val (.str (sx [])), .non, .non]) ?_ fun ρ' e => ?_
  · by_cases n0 : 0 ≤ n
    · obtain rfl : n = (m : Int) := by omega
      exact ps1_par 1 2 (pad_cons (pd_ifT (ptd_eq (ptd_cmp (pd_var 0) pd_int bd_ge rfl) (decide_eq_true n0)) (pd_var 0)) (pad_cons pd_str pad_nil)) nd
    · have e : (0 - n) = (m : Int) := by omega
      refine ps1_par 1 2 (pad_cons (pd_ifF (ptd_eq (ptd_cmp (pd_var 0) pd_int bd_ge rfl) (decide_eq_false n0)) (pd_bin pd_int (pd_var 0) bd_sub)) (pad_cons pd_str pad_nil)) nd ?_
      rw [e]
      rfl
  subst e
  refine psd_while (fun k ρ' => ∃ (l : Nat) (x : Str) (p : Sl), ρ' = [.val (.int n), .val (.int l), .val (.str x), p, .non] ∧ k = l ∧ l ≤ m ∧ sx (Nat.toDigits 10 l) ++ x = sx (Nat.toDigits 10 m)) m PassesOwn.never ⟨m, _, _, rfl, rfl, Nat.le_refl _, by rw [sx_app, List.append_nil]⟩ ?_
  rintro l ρ' ⟨_, x, p, rfl, rfl, hl, hx⟩
  have hbl : Bd 1900 (l : Int) := by unfold Bd at *; omega
  have ll := dg_len (by decide) hbl
  have lx : x.length ≤ 2000 := by
    have z := congrArg Str.length hx
    rw [strLen_append, sx_len, sx_len] at z
    omega
  refine ⟨_, _, ptd_cmp (pd_var 1) (pd_globI hP) bd_ge rfl, fun h => ?_, fun h => ?_⟩
  · have h : (10 : Int) ^ 60 ≤ (l : Int) := of_decide_eq_true h
    have h' : 10 ^ 60 ≤ l := by omega
    have ep : ((l : Int) % 10 ^ 60 + 10 ^ 60) = ((l % 10 ^ 60 + 10 ^ 60 : Nat) : Int) := by omega
    have bp : Bd 201 ((l : Int) % 10 ^ 60 + 10 ^ 60) := by unfold Bd; omega
    have e3 : (l : Int).fdiv (10 ^ 60) = ((l / 10 ^ 60 : Nat) : Int) := by
      rw [Int.fdiv_eq_ediv_of_nonneg _ (by decide)]
      omega
    have lp := dg_len (n := l % 10 ^ 60 + 10 ^ 60) (k := 201) (by decide) (by rw [← ep]; exact bp)
    have es : Str.ofString (toString ((l : Int) % 10 ^ 60 + 10 ^ 60)) = sx (Nat.toDigits 10 (l % 10 ^ 60 + 10 ^ 60)) := by rw [ep, str_nat]
    have ec := cut1 _ (dg_nil (l % 10 ^ 60 + 10 ^ 60))
    have lc : (cutS (sx (Nat.toDigits 10 (l % 10 ^ 60 + 10 ^ 60))) (some 1) none).length ≤ 2000 := by
      rw [ec, sx_len, List.length_drop]
      omega
    refine psd_st (ps1_set 3 nd (pd_bin (pd_bin (pd_callTy cd_int B.int (pad_cons (pd_var 1) pad_nil)) (pd_globI hP) (bd_mod (by decide))) (pd_globI hP) bd_add)) ?_
    refine psd_st (ps1_set 2 nd (pd_js (.cons (pd_fmtS (pd_sliceS (pd_callTy (cd_strI (bp.log (m := 1920) (by decide))) B.str (pad_cons (pd_var 3) pad_nil)) (pod_some pd_int) pod_none (by rw [es, sx_len]; omega)) (by rw [es]; omega)) (.cons (pd_fmtS (pd_var 2) (by omega)) .nil)) (lens2 (by rw [es]; omega)))) ?_
    refine psd_st (ps1_set 1 nd (pd_bin (pd_var 1) (pd_globI hP) (bd_divA ⟨by decide, by decide⟩))) ?_
    refine psd_nil ⟨l / 10 ^ 60, Nat.div_lt_self (by omega) (by decide), l / 10 ^ 60, joinD Str.empty [cutS (Str.ofString (toString ((l : Int) % 10 ^ 60 + 10 ^ 60))) (some 1) none, x], .val (.int ((l : Int) % 10 ^ 60 + 10 ^ 60)), ?_, rfl, Nat.le_trans (Nat.div_le_self _ _) hl, ?_⟩
    · rw [e3]; rfl
    · show _ ++ ((Str.empty ++ _) ++ x) = _
      rw [es, ec, sx_nil, ← hx, dg_split 60 l h', ← sx_app, sx_app [], List.nil_append, str_assoc]
  · have e0 : Str.ofString (toString (l : Int)) = sx (Nat.toDigits 10 l) := str_nat l
    by_cases n0 : n < 0
    · refine psd_st (ps1_set 4 nd (pd_ifT (ptd_eq (ptd_cmp (pd_var 0) pd_int bd_lt rfl) (decide_eq_true n0)) pd_str)) ?_
      refine psd_ret (pd_js (.cons (pd_fmtS (pd_var 4) (by decide)) (.cons (pd_fmtI (pd_var 1) (hbl.log (m := 1920) (by decide))) (.cons (pd_fmtS (pd_var 2) (by omega)) .nil))) (lens3 (by rw [e0, sx_len]; show 1 + _ + _ ≤ _; omega))) ?_
      refine congrArg (fun q => Res.val (D.str q)) ?_
      show ((Str.empty ++ _) ++ _) ++ x = _
      have en : n = -(m : Int) := by omega
      rw [en, str_neg (by omega), e0, str_assoc, hx, sx_nil, sx_of, sx_app, sx_app]
      rfl
    · refine psd_st (ps1_set 4 nd (pd_ifF (ptd_eq (ptd_cmp (pd_var 0) pd_int bd_lt rfl) (decide_eq_false n0)) pd_str)) ?_
      refine psd_ret (pd_js (.cons (pd_fmtS (pd_var 4) (by decide)) (.cons (pd_fmtI (pd_var 1) (hbl.log (m := 1920) (by decide))) (.cons (pd_fmtS (pd_var 2) (by omega)) .nil))) (lens3 (by rw [e0, sx_len]; show 0 + _ + _ ≤ _; omega))) ?_
      refine congrArg (fun q => Res.val (D.str q)) ?_
      show ((Str.empty ++ _) ++ _) ++ x = _
      have en : n = (m : Int) := by omega
      rw [en, e0, str_nat, str_assoc, hx, sx_nil, sx_of, sx_app, sx_app]
      rfl
/-! ### the texts of ratios -/
theorem len_str {n : Int} {k : Nat} (h : Bd k n) (hk : 0 < k := by decide) : (Str.ofString (toString n)).length ≤ k + 1 := by
  have e := int_text_length_le hk (h.log (Nat.le_refl _) hk)
  rw [ofString_length]
  exact e
def S_txt (C : Addr) (g : Rat → Str) : List D → Res → Prop := fun ds r => ∃ x, ds = [qD C x] ∧ Sz 1900 x ∧ r = .val (.str (g x))
def qrepr (x : Rat) : Str := (((Str.ofString "Ratio(" ++ Str.ofString (toString x.num)) ++ Str.ofString ", ") ++ Str.ofString (toString (x.den : Int))) ++ Str.ofString ")"
theorem lens5 {a b c d e : Str} (h : a.length + b.length + c.length + d.length + e.length ≤ 1000000) : lensD Str.empty [a, b, c, d, e] := by
  have q : (Str.empty : Str).length = 0 := rfl
  refine ⟨?_, ?_, ?_, ?_, ?_, trivial⟩ <;> simp only [strLen_append, q] <;> omega
theorem ok_Ratio_repr (F : FunG K "__repr__" "Ratio.__repr__" s_Ratio_repr f fd) (R : Rc K mg C) (c1 : Cal false P w K mg base 1 "digits_of" (spD K S_digits) []) : FnB false P w K mg base 2 f fd ["self"] (spD K (S_txt C qrepr)) := by
  refine fnD F cs_Ratio_repr (fun ds r ⟨_, h, _⟩ => by rw [h]; rfl) (fun cdv A outer s H hr nog ds r h => ?_)
  obtain ⟨x, rfl, hx, rfl⟩ := h
  have l1 := len_str hx.1
  have l2 := len_str hx.2
  refine psd_ret (pd_js (.cons pd_str (.cons (pd_fmtS (pd_call c1 hr (pad_cons (pd_fld (pd_var 0) R.cl R.nT rfl) pad_nil) ⟨_, rfl, hx.1, rfl⟩) (by omega)) (.cons pd_str (.cons (pd_fmtS (pd_call c1 hr (pad_cons (pd_fld (pd_var 0) R.cl R.nB rfl) pad_nil) ⟨_, rfl, hx.2, rfl⟩) (by omega)) (.cons pd_str .nil))))) (lens5 (by show 6 + _ + 2 + _ + 1 ≤ _; omega))) ?_
  refine congrArg (fun q => Res.val (D.str q)) ?_
  show ((((Str.empty ++ _) ++ _) ++ _) ++ _) ++ _ = _
  rw [sx_nil, sx_of "Ratio(", sx_app, List.nil_append]
  unfold qrepr
  rw [sx_of "Ratio("]
/-! ### totals -/
theorem ok_ratio_of (F : FunG K "ratio_of" "ratio_of" s_ratio_of f fd) (B : Bi mg) (R : Rc K mg C) (mk : Mak P w K mg base 2 "Ratio" C (spIO K (T_init C)) [.int 1]) : FnB false P w K mg base 4 f fd ["number"] (spD K (S_want C)) := by
  refine fnD F cs_ratio_of (fun ds r ⟨_, _, h, _⟩ => by rw [h]; rfl) (fun cdv A outer s H hr nog ds r h => ?_)
  obtain ⟨d, x, rfl, hn, rfl⟩ := h
  cases hn with
  | q x => exact psd_ret (pd_ifT (ptd_bl (pd_callB (cd_isi (R.ty _) (.own C) R.oo) B.isi (pad_cons (pd_var 0) (pad_cons (pd_glob R.at_) pad_nil)))) (pd_var 0)) rfl
  | i n =>
    refine psd_ret (pd_ifF (ptd_bl (pd_callB (cd_isi (.int n) (.own C) R.io) B.isi (pad_cons (pd_var 0) (pad_cons (pd_glob R.at_) pad_nil)))) (pd_still (pd_make mk hr (pad_cons (pd_var 0) pad_nil) ⟨n, 1, rfl, rfl, by decide, by unfold Bd; decide, rfl, rfl⟩ (dens_int1 1)))) ?_
    exact congrArg (fun q => Res.val (qD C q)) (of_int n)
theorem ok_want_number (F : FunG K "want_number" "want_number" s_want_number f fd) (c1 : Cal false P w K mg base 2 "is_number" (spD K (S_is_number C)) []) (c2 : Cal false P w K mg base 4 "ratio_of" (spD K (S_want C)) []) : FnB false P w K mg base 5 f fd ["value"] (spD K (S_want C)) := by
  refine fnD F cs_want_number (fun ds r ⟨_, _, h, _⟩ => by rw [h]; rfl) (fun cdv A outer s H hr nog ds r h => ?_)
  obtain ⟨d, x, rfl, hn, rfl⟩ := h
  exact psd_skip (ptd_notF (ptd_bl (pd_call c1 hr (pad_cons (pd_var 0) pad_nil) ⟨_, _, rfl, hn, rfl⟩))) (psd_ret (pd_call c2 hr (pad_cons (pd_var 0) pad_nil) ⟨_, _, rfl, hn, rfl⟩) rfl)
/-- an operator of the class, as it stands at two ratios -/
structure OwnOp (P : Program) (w : World) (K : PySem.W.Frag) (mg : Str → Option Value) (base : Heap) (k : Nat) (C : Addr) (nm : String) (S : List D → Res → Prop) : Prop where
  ex : ∃ (f : Addr) (fd : FuncData) (ps : List Str), OpC K C nm f ∧ FnOk P w K mg base CX0 k f fd ps (spD K S) ∧ Binds K fd ps []
theorem bd_q {X : Cx} {k j : Nat} {C : Addr} {op : Operator} {c : Rat → Rat → Prop} {g : Rat → Rat → Rat} {x y : Rat} (o : OwnOp X.prog X.w X.K X.mg X.base k C op.info.2 (S_op C c g)) (hr : Room j X.A) (hx : Sz 3800 x) (hy : Sz 3800 y) (hc : c x y) (hk : k ≤ j := by decide) : BinD X (binaryOp op) (qD C x) (qD C y) (.own (qD C (g x y))) := by
  obtain ⟨f, fd, ps, oc, F, hb⟩ := o.ex
  exact bd_own oc F hb hr ⟨x, _, y, rfl, .q y, hx, hy, hc, rfl⟩ hk
/-- a list or a tuple of numbers -/
inductive Nums (C : Addr) : List D → List Rat → Prop where
  | nil : Nums C [] []
  | cons {d : D} {x : Rat} {ds : List D} {xs : List Rat} (h : Num C d x) (t : Nums C ds xs) : Nums C (d :: ds) (x :: xs)
theorem Nums.length {C : Addr} : ∀ {ds : List D} {xs : List Rat}, Nums C ds xs → ds.length = xs.length
  | _, _, .nil => rfl
  | _, _, .cons _ t => congrArg Nat.succ (Nums.length t)
theorem Nums.get {C : Addr} : ∀ {ds : List D} {xs : List Rat} {i : Nat} {d : D}, Nums C ds xs → ds[i]? = some d → ∃ x, xs[i]? = some x ∧ Num C d x
  | _, _, _, _, .nil, e => by simp at e
  | _, _, 0, _, .cons a _, e => by
    simp at e
    subst e
    exact ⟨_, rfl, a⟩
  | _, _, i + 1, d, .cons _ b, e => by
    obtain ⟨u, h1, h2⟩ := Nums.get (i := i) (d := d) b (by simpa using e)
    exact ⟨u, by simpa using h1, h2⟩
def S_is_list : List D → Res → Prop := fun ds r => ∃ xs, (ds = [.lst xs] ∨ ds = [.tup xs]) ∧ r = .val (.bl true)
theorem ok_is_list (F : FunG K "is_list" "is_list" s_is_list f fd) (B : Bi mg) (k1 : PySem.W.kitAny K (.type "list") [.type "list", .type "tuple"] = some true) (k2 : PySem.W.kitAny K (.type "tuple") [.type "list", .type "tuple"] = some true) : FnB false P w K mg base 1 f fd ["value"] (spD K S_is_list) := by
  refine fnD F cs_is_list (fun ds r ⟨_, h, _⟩ => by rcases h with h | h <;> rw [h] <;> rfl) (fun cdv A outer s H hr nog ds r h => ?_)
  obtain ⟨xs, rfl | rfl, rfl⟩ := h
  · exact psd_ret (pd_callB (cd_isiT (.lst xs) (.cons (.ty _) (.cons (.ty _) .nil)) k1) B.isi (pad_cons (pd_var 0) (pad_cons (pd_tup (pad_cons (pd_ty B.list) (pad_cons (pd_ty B.tuple) pad_nil))) pad_nil))) rfl
  · exact psd_ret (pd_callB (cd_isiT (.tup xs) (.cons (.ty _) (.cons (.ty _) .nil)) k2) B.isi (pad_cons (pd_var 0) (pad_cons (pd_tup (pad_cons (pd_ty B.list) (pad_cons (pd_ty B.tuple) pad_nil))) pad_nil))) rfl
end
end Dn
end
section
set_option Elab.async false
set_option linter.all false
set_option maxRecDepth 100000
set_option maxHeartbeats 2000000
set_option exponentiation.threshold 10000
namespace Dn
open PySem PySem.Spec L2
/-! ### lines -/
@[reducible] def lnD (C : Addr) (l : List Rat) : D := .lst (l.map (qD C))
theorem ln_get {C : Addr} {l : List Rat} {i : Nat} (h : i < l.length) : (l.map (qD C))[i]? = some (qD C (cf l i)) := by
  rw [List.getElem?_map, List.getElem?_eq_getElem h, cf_lt h]
  rfl
theorem ln_len {C : Addr} {l : List Rat} : lenD (lnD C l) = some l.length := by
  show some _ = some _
  rw [List.length_map]
theorem cut_take {xs : List D} {m : Nat} (h : m ≤ xs.length) : cutD xs none (some (m : Int)) = xs.take m := by
  unfold cutD
  rw [HT.sIx_none, HT.sIx_nat, List.drop_zero, Nat.min_eq_left h, Nat.sub_zero]
section
variable {P : Program} {w : World} {K : PySem.W.Frag} {mg : Str → Option Value} {base : Heap} {f C : Addr} {fd : FuncData}
def S_trimmed (C : Addr) : List D → Res → Prop := fun ds r => ∃ l : List Rat, ds = [lnD C l] ∧ l.length ≤ 1000000 ∧ r = .own (lnD C (trim l))
theorem ok_trimmed (F : FunG K "trimmed" "trimmed" s_trimmed f fd) (B : Bi mg) (R : Rc K mg C) (hl : mg "len" = none) : FnB false P w K mg base 1 f fd ["ratios"] (spD K (S_trimmed C)) := by
  refine fnD F cs_trimmed (fun ds r ⟨_, h, _⟩ => by rw [h]; rfl) (fun cdv A outer s H hr nog ds r h => ?_)
  obtain ⟨l, rfl, hz, rfl⟩ := h
  have nd := cs_trimmed.nd
  refine psd_st (ps1_set 1 nd (pd_callB (cd_len (ln_len (l := l))) hl (pad_cons (pd_var 0) pad_nil))) ?_
  refine psd_while (fun k ρ' => ∃ m : Nat, ρ' = [.val (lnD C l), .val (.int (m : Int))] ∧ k = m ∧ m ≤ l.length ∧ cnt l m = cnt l l.length) l.length PassesOwn.never ⟨_, rfl, rfl, Nat.le_refl _, rfl⟩ ?_
  rintro m ρ' ⟨_, rfl, rfl, hm, hc⟩
  have ix : (0 < (m : Int)) → atI (l.map (qD C)) ((m : Int) - 1) = some (qD C (cf l (m - 1))) := fun h => by
    have e : (m : Int) - 1 = ((m - 1 : Nat) : Int) := by omega
    rw [e]
    exact atI_nat (ln_get (by omega))
  refine ⟨_, _, (pwd_and (l := decide ((cf l (m - 1)).num = 0)) (ptd_cmp (pd_var 1) pd_int bd_gt rfl) fun h => pwd_and1 (ptd_cmp (pd_fld (pd_ixL (pd_var 0) (pd_bin (pd_var 1) pd_int bd_sub) (ix (of_decide_eq_true h))) R.cl R.nT rfl) pd_int bd_eqI rfl)).pt, fun h => ?_, fun h => ?_⟩
  · rw [Bool.and_eq_true] at h
    have h1 : 0 < (m : Int) := of_decide_eq_true h.1
    have h2 : cf l (m - 1) = 0 := Rat.num_eq_zero.mp (of_decide_eq_true h.2)
    have e : (m : Int) - 1 = ((m - 1 : Nat) : Int) := by omega
    refine psd_st (ps1_set 1 nd (pd_bin (pd_var 1) pd_int bd_sub)) (psd_nil ⟨m - 1, by omega, m - 1, ?_, rfl, by omega, ?_⟩)
    · rw [e]; rfl
    · rw [← hc]
      obtain ⟨k, rfl⟩ : ∃ k, m = k + 1 := ⟨m - 1, by omega⟩
      show cnt l k = if cf l k = 0 then cnt l k else k + 1
      rw [if_pos (show cf l k = 0 from h2)]
  · have hmt : l.take m = trim l := by
      unfold trim
      rw [← hc]
      cases m with
      | zero => rfl
      | succ k =>
        have hk : (0 : Int) < ((k + 1 : Nat) : Int) := by omega
        rw [decide_eq_true hk, Bool.true_and] at h
        have h2 : ¬ cf l k = 0 := fun z => of_decide_eq_false h (by show (cf l k).num = 0; rw [z]; rfl)
        show _ = l.take (if cf l k = 0 then cnt l k else k + 1)
        rw [if_neg h2]
    refine psd_ret (pd_callTy (cd_list rfl) B.list (pad_cons (pd_cast (pd_still (pd_sliceL (pd_var 0) pod_none (pod_some (pd_var 1)))) (d' := .lst ((l.map (qD C)).take m)) (congrArg D.lst (cut_take (by rw [List.length_map]; exact hm)))) pad_nil)) ?_
    refine congrArg (fun q => Res.own (D.lst q)) ?_
    rw [← hmt, List.map_take]
/-- what is given as a line: a list or a tuple of numbers, at most 31 -/
def Giv (C : Addr) (d : D) (xs : List Rat) : Prop := ∃ dl, (d = .lst dl ∨ d = .tup dl) ∧ Nums C dl xs ∧ dl.length ≤ 31
theorem giv_ln {l : List Rat} (h : l.length ≤ 31) : Giv C (lnD C l) l := ⟨_, .inl rfl, by
  clear h
  induction l with
  | nil => exact .nil
  | cons x l ih => exact .cons (.q x) ih, by rw [List.length_map]; exact h⟩
def S_is_line (C : Addr) : List D → Res → Prop := fun ds r => ∃ d xs, ds = [d] ∧ Giv C d xs ∧ r = .val (.bl true)
theorem ok_is_line (F : FunG K "is_line" "is_line" s_is_line f fd) {t : Tok} (c1 : Cal false P w K mg base 1 "is_list" (spD K S_is_list) []) (c2 : Cal false P w K mg base 2 "is_number" (spD K (S_is_number C)) []) (hM : mg "MOST_LINE" = some (.int 30 t)) (hl : mg "len" = none) (hal : mg "all" = none) : FnB false P w K mg base 3 f fd ["value"] (spD K (S_is_line C)) := by
  refine fnD F cs_is_line (fun ds r ⟨_, _, h, _⟩ => by rw [h]; rfl) (fun cdv A outer s H hr nog ds r h => ?_)
  obtain ⟨d, xs, rfl, ⟨dl, hd, hn, hlen⟩, rfl⟩ := h
  have nd := cs_is_line.nd
  have el : ∀ (i : Nat) (d : D), dl[i]? = some d → ∃ x, Num C d x := fun i d h => by
    obtain ⟨x, _, h4⟩ := hn.get h
    exact ⟨x, h4⟩
  have le : decide ((dl.length : Int) ≤ 30 + 1) = true := decide_eq_true (by omega)
  rcases hd with rfl | rfl
  · refine psd_ret (pd_blc (pd_and (l := true) (pd_call c1 hr (pad_cons (pd_var 0) pad_nil) ⟨dl, .inl rfl, rfl⟩) fun _ => pd_cast (pd_and (l := true) (pd_cmp (pd_callB (cd_len rfl) hl (pad_cons (pd_var 0) pad_nil)) (pd_bin (pd_globI hM) pd_int bd_add) bd_le rfl) fun _ => pd_one (pd_allT [("number", 1)] nd hal (pid_list (pd_var 0)) (fun s H C cl fp => pgd_name 1 nd) (fun i d hd => ?_) (by omega))) (by rw [le]; rfl)) rfl) rfl
    obtain ⟨x, hx⟩ := el i d hd
    exact ⟨_, _, rfl, fun s H C' cl fp => pd_call c2 hr (pad_cons (pd_var 1) pad_nil) ⟨_, x, rfl, hx, rfl⟩, rfl⟩
  · refine psd_ret (pd_blc (pd_and (l := true) (pd_call c1 hr (pad_cons (pd_var 0) pad_nil) ⟨dl, .inr rfl, rfl⟩) fun _ => pd_cast (pd_and (l := true) (pd_cmp (pd_callB (cd_len rfl) hl (pad_cons (pd_var 0) pad_nil)) (pd_bin (pd_globI hM) pd_int bd_add) bd_le rfl) fun _ => pd_one (pd_allT [("number", 1)] nd hal (pid_tup (pd_var 0)) (fun s H C cl fp => pgd_name 1 nd) (fun i d hd => ?_) (by omega))) (by rw [le]; rfl)) rfl) rfl
    obtain ⟨x, hx⟩ := el i d hd
    exact ⟨_, _, rfl, fun s H C' cl fp => pd_call c2 hr (pad_cons (pd_var 1) pad_nil) ⟨_, x, rfl, hx, rfl⟩, rfl⟩
def S_want_line (C : Addr) : List D → Res → Prop := fun ds r => ∃ d xs, ds = [d] ∧ Giv C d xs ∧ r = .own (lnD C (trim xs))
theorem ok_want_line (F : FunG K "want_line" "want_line" s_want_line f fd) (c1 : Cal false P w K mg base 3 "is_line" (spD K (S_is_line C)) []) (c2 : Cal false P w K mg base 4 "ratio_of" (spD K (S_want C)) []) (c3 : Cal false P w K mg base 1 "trimmed" (spD K (S_trimmed C)) []) : FnB false P w K mg base 5 f fd ["value"] (spD K (S_want_line C)) := by
  refine fnD F cs_want_line (fun ds r ⟨_, _, h, _⟩ => by rw [h]; rfl) (fun cdv A outer s H hr nog ds r h => ?_)
  obtain ⟨d, xs, rfl, hg, rfl⟩ := h
  obtain ⟨dl, hd, hn, hlen⟩ := id hg
  have nd := cs_want_line.nd
  refine psd_skip (ptd_notF (ptd_bl (pd_call c1 hr (pad_cons (pd_var 0) pad_nil) ⟨d, xs, rfl, hg, rfl⟩))) ?_
  have step : ∀ (i : Nat) (d y : D), dl[i]? = some d → (xs.map (qD C))[i]? = some y → ∃ x, y = qD C x ∧ Num C d x := fun i d y h1 h2 => by
    obtain ⟨x, h3, h4⟩ := hn.get h1
    rw [List.getElem?_map, h3] at h2
    cases h2
    exact ⟨x, rfl, h4⟩
  have hl : (xs.map (qD C)).length = dl.length := by rw [List.length_map, hn.length]
  have hxl : xs.length ≤ 1000000 := by rw [← hn.length]; omega
  rcases hd with rfl | rfl
  · refine psd_ret (pd_call c3 hr (pad_cons (pd_still (pd_map (ys := xs.map (qD C)) [("number", 1)] nd (pid_list (pd_var 0)) (fun s H C cl fp => pgd_name 1 nd) hl (fun i d y h1 h2 => ?_) (by omega))) pad_nil) ⟨xs, rfl, hxl, rfl⟩) rfl
    obtain ⟨x, rfl, h4⟩ := step i d y h1 h2
    exact ⟨_, _, rfl, fun s H C cl fp => pd_call c2 hr (pad_cons (pd_var 1) pad_nil) ⟨_, _, rfl, h4, rfl⟩, rfl⟩
  · refine psd_ret (pd_call c3 hr (pad_cons (pd_still (pd_map (ys := xs.map (qD C)) [("number", 1)] nd (pid_tup (pd_var 0)) (fun s H C cl fp => pgd_name 1 nd) hl (fun i d y h1 h2 => ?_) (by omega))) pad_nil) ⟨xs, rfl, hxl, rfl⟩) rfl
    obtain ⟨x, rfl, h4⟩ := step i d y h1 h2
    exact ⟨_, _, rfl, fun s H C cl fp => pd_call c2 hr (pad_cons (pd_var 1) pad_nil) ⟨_, _, rfl, h4, rfl⟩, rfl⟩
def S_line_over (C : Addr) : List D → Res → Prop := fun ds r => ∃ (ts : List Int) (b : Int), ds = [.lst (ts.map D.int), .int b] ∧ ts.length ≤ 1000000 ∧ b ≠ 0 ∧ Bd 8000 b ∧ r = .own (lnD C (trim (ts.map fun t => Rat.divInt t b)))
theorem ok_line_over (F : FunG K "line_over" "line_over" s_line_over f fd) (mk : Mak P w K mg base 2 "Ratio" C (spIO K (T_init C)) []) (c3 : Cal false P w K mg base 1 "trimmed" (spD K (S_trimmed C)) []) : FnB false P w K mg base 4 f fd ["tops", "bottom"] (spD K (S_line_over C)) := by
  refine fnD F cs_line_over (fun ds r ⟨_, _, h, _⟩ => by rw [h]; rfl) (fun cdv A outer s H hr nog ds r h => ?_)
  obtain ⟨ts, b, rfl, hl, hb, hz, rfl⟩ := h
  have nd := cs_line_over.nd
  refine psd_ret (pd_call c3 hr (pad_cons (pd_still (pd_map (ys := (ts.map fun t => Rat.divInt t b).map (qD C)) [("top", 2)] nd (pid_list (pd_var 0)) (fun s H C cl fp => pgd_name 2 nd) (by simp) (fun i d y h1 h2 => ?_) (by rw [List.length_map]; exact hl))) pad_nil) ⟨_, rfl, by rw [List.length_map]; exact hl, rfl⟩) rfl
  rw [List.getElem?_map] at h1
  obtain ⟨t, ht, rfl⟩ := Option.map_eq_some_iff.mp h1
  rw [List.getElem?_map, List.getElem?_map, ht] at h2
  cases h2
  exact ⟨_, _, rfl, fun s H C' cl fp => pd_still (pd_make mk hr (pad_cons (pd_var 2) (pad_cons (pd_var 1) pad_nil)) ⟨t, b, rfl, rfl, hb, hz, rfl, rfl⟩), rfl⟩
theorem cf_sz {n : Nat} {l : List Rat} (h : ∀ x ∈ l, Sz n x) (hn : 0 < n := by decide) (i : Nat) : Sz n (cf l i) := by
  by_cases q : i < l.length
  · rw [cf_lt q]
    exact h _ (List.getElem_mem q)
  · rw [cf_ge (by omega)]
    have z : Sz 1 (0 : Rat) := ⟨by unfold Bd; decide, by unfold Bd; decide⟩
    exact z.mono hn
def S_line_sum (C : Addr) : List D → Res → Prop := fun ds r => ∃ l m : List Rat, ds = [lnD C l, lnD C m] ∧ l.length ≤ 1000000 ∧ m.length ≤ 1000000 ∧ (∀ x ∈ l, Sz 3800 x) ∧ (∀ x ∈ m, Sz 3800 x) ∧ r = .own (lnD C (pAdd l m))
theorem ok_line_sum (F : FunG K "line_sum" "line_sum" s_line_sum f fd) (o : OwnOp P w K mg base 4 C "add" (S_op C (fun _ _ => True) fun x y => x + y)) (c3 : Cal false P w K mg base 1 "trimmed" (spD K (S_trimmed C)) []) (hl : mg "len" = none) (hrg : mg "range" = none) : FnB false P w K mg base 5 f fd ["one", "other"] (spD K (S_line_sum C)) := by
  refine fnD F cs_line_sum (fun ds r ⟨_, _, h, _⟩ => by rw [h]; rfl) (fun cdv A outer s H hr nog ds r h => ?_)
  obtain ⟨l0, m0, rfl, hl0, hm0, sl0, sm0, rfl⟩ := h
  have nd := cs_line_sum.nd
  refine psd_cons (fun ρ' => ∃ l m : List Rat, m.length ≤ l.length ∧ l.length ≤ 1000000 ∧ (∀ x ∈ l, Sz 3800 x) ∧ (∀ x ∈ m, Sz 3800 x) ∧ pAdd l m = pAdd l0 m0 ∧ ρ' = [.val (lnD C l0), .val (lnD C m0), .val (lnD C l), .val (lnD C m), .non]) ?_ ?_
  · by_cases hq : m0.length ≤ l0.length
    · exact ps1_two 2 3 nd (pd_ifT (ptd_eq (ptd_cmp (pd_callB (cd_len (ln_len (l := l0))) hl (pad_cons (pd_var 0) pad_nil)) (pd_callB (cd_len (ln_len (l := m0))) hl (pad_cons (pd_var 1) pad_nil)) bd_ge rfl) (decide_eq_true (by omega))) (pd_tup (pad_cons (pd_var 0) (pad_cons (pd_var 1) pad_nil)))) ⟨l0, m0, hq, hl0, sl0, sm0, rfl, rfl⟩
    · exact ps1_two 2 3 nd (pd_ifF (ptd_eq (ptd_cmp (pd_callB (cd_len (ln_len (l := l0))) hl (pad_cons (pd_var 0) pad_nil)) (pd_callB (cd_len (ln_len (l := m0))) hl (pad_cons (pd_var 1) pad_nil)) bd_ge rfl) (decide_eq_false (by omega))) (pd_tup (pad_cons (pd_var 1) (pad_cons (pd_var 0) pad_nil)))) ⟨m0, l0, by omega, hm0, sm0, sl0, pAdd_comm _ _, rfl⟩
  rintro ρ' ⟨l, m, hle, hll, sl, sm, he, rfl⟩
  have fin : trim (ofF l.length fun i => cf l i + cf m i) = pAdd l0 m0 := by
    rw [← he]
    unfold pAdd
    rw [Nat.max_eq_left hle]
  refine psd_ret (pd_call c3 hr (pad_cons (pd_still (pd_map (ys := (ofF l.length fun i => cf l i + cf m i).map (qD C)) [("at", 4)] nd (pid_range1 hrg (pd_callB (cd_len (ln_len (l := l))) hl (pad_cons (pd_var 2) pad_nil)) (by omega) (by omega)) (fun s H C cl fp => pgd_name 4 nd) (by rw [List.length_map, ofF_len, rng_len]; omega) (fun i d y h1 h2 => ?_) (by rw [rng_len]; omega))) pad_nil) ⟨_, rfl, by rw [ofF_len]; exact hll, rfl⟩) (congrArg (fun q => Res.own (lnD C q)) fin)
  have hi : i < l.length := by
    have := (List.getElem?_eq_some_iff.mp h1).1
    rw [rng_len] at this
    omega
  rw [rng_get (by omega)] at h1
  cases h1
  rw [Int.zero_add]
  have hy : y = qD C (cf l i + cf m i) := by
    unfold ofF at h2
    rw [List.getElem?_map, List.getElem?_map, List.getElem?_range hi] at h2
    cases h2
    rfl
  subst hy
  by_cases hm : i < m.length
  · refine ⟨_, _, rfl, fun s H C' cl fp => pd_ifT (ptd_eq (ptd_cmp (pd_var 4) (pd_callB (cd_len (ln_len (l := m))) hl (pad_cons (pd_var 3) pad_nil)) bd_lt rfl) (decide_eq_true (by omega))) (pd_still (pd_bin (pd_ixL (pd_var 2) (pd_var 4) (atI_nat (ln_get hi))) (pd_ixL (pd_var 3) (pd_var 4) (atI_nat (ln_get hm))) (bd_q (g := fun x y => x + y) o hr (cf_sz sl (i := i)) (cf_sz sm (i := i)) trivial))), rfl⟩
  · refine ⟨_, _, rfl, fun s H C' cl fp => pd_ifF (ptd_eq (ptd_cmp (pd_var 4) (pd_callB (cd_len (ln_len (l := m))) hl (pad_cons (pd_var 3) pad_nil)) bd_lt rfl) (decide_eq_false (by omega))) (pd_cast (pd_ixL (pd_var 2) (pd_var 4) (atI_nat (ln_get hi))) (by rw [cf_ge (l := m) (by omega), Rat.add_zero])), rfl⟩
end
end Dn
end
section
set_option Elab.async false
set_option linter.all false
set_option maxRecDepth 100000
set_option maxHeartbeats 2000000
set_option exponentiation.threshold 10000
namespace Dn
open PySem PySem.Spec L2
def hd (m : List Rat) : Rat := cf m (m.length - 1)
/-- sizes along a division by m -/
structure Fam (Q : Nat → Rat → Prop) (m : List Rat) (N : Nat) : Prop where
  zero : ∀ n, Q n 0
  up : ∀ n x, Q n x → Q (n + 1) x
  sz : ∀ n x, n ≤ N → Q n x → Sz 3700 x
  div : ∀ n x, n < N → Q n x → Q (n + 1) (x / hd m)
  sub : ∀ n a c y, n < N → Q n a → Q n c → y ∈ m → Q (n + 1) (a - c / hd m * y)
  pr : ∀ n c y, n < N → Q n c → y ∈ m → Sz 3700 (c / hd m * y)
  ms : ∀ y ∈ m, Sz 3700 y
theorem Fam.le {Q : Nat → Rat → Prop} {m : List Rat} {N : Nat} (h : Fam Q m N) {a b : Nat} (l : a ≤ b) {x : Rat} (q : Q a x) : Q b x := by
  induction b with
  | zero => obtain rfl : a = 0 := by omega
            exact q
  | succ b ih =>
    by_cases e : a = b + 1
    · subst e; exact q
    · exact h.up _ _ (ih (by omega))
theorem Fam.cf {Q : Nat → Rat → Prop} {m : List Rat} {N : Nat} (h : Fam Q m N) {l : List Rat} {n : Nat} (q : ∀ x ∈ l, Q n x) (i : Nat) : Q n (Dn.cf l i) := by
  by_cases c : i < l.length
  · rw [cf_lt c]; exact q _ (List.getElem_mem c)
  · rw [cf_ge (by omega)]; exact h.zero n
theorem Fam.dsub {Q : Nat → Rat → Prop} {m : List Rat} {N : Nat} (h : Fam Q m N) {l : List Rat} {n : Nat} (hn : n < N) (q : ∀ x ∈ l, Q n x) : ∀ x ∈ dsub l m, Q (n + 1) x := by
  intro x hx
  unfold Dn.dsub ofF at hx
  obtain ⟨i, _, rfl⟩ := List.mem_map.mp hx
  by_cases c : l.length - m.length ≤ i
  · rw [if_pos c]
    unfold fac
    by_cases d : i - (l.length - m.length) < m.length
    · exact h.sub n _ _ _ hn (h.cf q i) (h.cf q _) (by rw [cf_lt d]; exact List.getElem_mem d)
    · rw [cf_ge (l := m) (i := i - (l.length - m.length)) (by omega), Rat.mul_zero, Rat.sub_eq_add_neg, Rat.neg_zero, Rat.add_zero]
      exact h.up _ _ (h.cf q i)
  · rw [if_neg c, Rat.sub_eq_add_neg, Rat.neg_zero, Rat.add_zero]
    exact h.up _ _ (h.cf q i)
/-- the rest while it is changed in place -/
def part (r m : List Rat) (i : Nat) : List Rat := ofF r.length fun k => if r.length - m.length ≤ k ∧ k < r.length - m.length + i then cf r k - fac r m * cf m (k - (r.length - m.length)) else cf r k
theorem list_cf {l k : List Rat} (h : l.length = k.length) (e : ∀ i, cf l i = cf k i) : l = k := by
  refine List.ext_getElem h fun i h1 h2 => ?_
  have := e i
  rwa [cf_lt h1, cf_lt h2] at this
theorem part_len (r m : List Rat) (i : Nat) : (part r m i).length = r.length := ofF_len _ _
theorem cf_part (r m : List Rat) (i k : Nat) (hk : k < r.length) : cf (part r m i) k = if r.length - m.length ≤ k ∧ k < r.length - m.length + i then cf r k - fac r m * cf m (k - (r.length - m.length)) else cf r k := by
  unfold part
  rw [cf_ofF, if_pos hk]
theorem part_zero (r m : List Rat) : part r m 0 = r := list_cf (part_len _ _ _) fun k => by
  by_cases h : k < r.length
  · rw [cf_part _ _ _ _ h, if_neg (by omega)]
  · rw [cf_ge (by rw [part_len]; omega), cf_ge (by omega)]
theorem part_set {r m : List Rat} {i : Nat} (hm : m.length ≤ r.length) (hi : i < m.length) : (part r m i).set (r.length - m.length + i) (cf r (r.length - m.length + i) - fac r m * cf m i) = part r m (i + 1) := list_cf (by rw [List.length_set, part_len, part_len]) fun k => by
  by_cases h : k < r.length
  · rw [cf_part _ _ _ _ h]
    by_cases e : k = r.length - m.length + i
    · subst e
      rw [if_pos (by omega), cf_lt (by rw [List.length_set, part_len]; exact h), List.getElem_set_self, Nat.add_sub_cancel_left]
    · unfold cf
      rw [List.getD_eq_getElem?_getD, List.getElem?_set_ne (by omega), ← List.getD_eq_getElem?_getD]
      show cf (part r m i) k = _
      rw [cf_part _ _ _ _ h]
      by_cases c : r.length - m.length ≤ k ∧ k < r.length - m.length + i
      · rw [if_pos c, if_pos (by omega)]; rfl
      · rw [if_neg c, if_neg (by omega)]; rfl
  · rw [cf_ge (by rw [List.length_set, part_len]; omega), cf_ge (by rw [part_len]; omega)]
theorem part_end {r m : List Rat} (h0 : 0 < m.length) (hm : m.length ≤ r.length) : (part r m (m.length - 1)).take (r.length - 1) = dsub r m := list_cf (by rw [List.length_take, part_len, dsub_len]; omega) fun k => by
  by_cases h : k < r.length - 1
  · have e : cf ((part r m (m.length - 1)).take (r.length - 1)) k = cf (part r m (m.length - 1)) k := by
      unfold cf
      rw [List.getD_eq_getElem?_getD, List.getElem?_take_of_lt h, ← List.getD_eq_getElem?_getD]
    rw [e, cf_part _ _ _ _ (by omega)]
    unfold dsub
    rw [cf_ofF, if_pos h]
    by_cases c : r.length - m.length ≤ k
    · rw [if_pos ⟨c, by omega⟩, if_pos c]
    · rw [if_neg (by omega), if_neg c, Rat.sub_eq_add_neg, Rat.neg_zero, Rat.add_zero]
  · rw [cf_ge (by rw [List.length_take, part_len]; omega), cf_ge (by rw [dsub_len]; omega)]
theorem ixN_last {n : Nat} (h : 0 < n) : ixN n (-1) = some (n - 1) := by
  unfold ixN
  first | (rw [if_neg (by omega), if_pos (by omega)]; congr 1; omega) | (simp; omega)
theorem cut_last {xs : List D} : cutD xs none (some (-1)) = xs.take (xs.length - 1) := by
  unfold cutD
  rw [HT.sIx_none, List.drop_zero, Nat.sub_zero]
  congr 1
  show HT.sIx xs.length xs.length (some (-1)) = _
  unfold HT.sIx
  simp
  omega
theorem atI_ln {C : Addr} {l : List Rat} {z : Int} {k : Nat} (h : ixN l.length z = some k) (hk : k < l.length) : atI (l.map (qD C)) z = some (qD C (cf l k)) := by
  unfold atI
  rw [List.length_map, h]
  show (l.map (qD C))[k]? = _
  rw [List.getElem?_map, List.getElem?_eq_getElem hk, cf_lt hk]
  rfl
def S_line_parts (C : Addr) : List D → Res → Prop := fun ds r => ∃ l m : List Rat, ds = [lnD C l, lnD C m] ∧ Tr l ∧ Tr m ∧ 0 < m.length ∧ l.length ≤ 100 ∧ m.length ≤ 100 ∧ (∃ Q, Fam Q m (l.length + 1 - m.length) ∧ ∀ x ∈ l, Q 0 x) ∧ r = .val (.tup [lnD C (quo l m), lnD C (rem l m)])
theorem b_q {X : Cx} {P : Program} {w : World} {K : PySem.W.Frag} {mg : Str → Option Value} {base : Heap} {N : List Str} {n : Nat} {k : Nat} {C : Addr} {op : Operator} {c : Rat → Rat → Prop} {g : Rat → Rat → Rat} {x y : Rat} (hx : Cxt X P w K mg base N n) (o : OwnOp P w K mg base k C op.info.2 (S_op C c g)) (h1 : Side (Sz 3800 x)) (h2 : Side (Sz 3800 y)) (hc : Side (c x y)) (hk : k ≤ n := by decide) : BinD X (binaryOp op) (qD C x) (qD C y) (.own (qD C (g x y))) := by
  obtain ⟨q1, q2, q3, q4, q5, q6, _, _, room⟩ := hx
  subst q1 q2 q3 q4 q5 q6
  exact bd_q o room h1 h2 hc hk
section
variable {X : Cx} {P : Program} {w : World} {K : PySem.W.Frag} {mg : Str → Option Value} {base : Heap} {N : List Str} {n : Nat} {ρ ρ1 : Rho} {pos p : Pos} {e : Expr} {es : List Expr} {C : Addr} {z : Int}
theorem a_ratio1 (hx : Cxt X P w K mg base N n) (cl : Mak P w K mg base 2 "Ratio" C (spIO K (T_init C)) [.int 1]) (ha : PAV X (e :: es) ρ [.int z] ρ1) (hk : 3 ≤ n := by decide) (hg : Gl X "Ratio" := by rfl)
    (he : starEach (e :: es) X.env = (false, eval e X.env) :: starEach es X.env := by rfl) (hpl : (backTo pos (starEach es X.env)).any (·.1) = false := by rfl) : PD X (.Call (.Name "Ratio" p) (e :: es) [] pos) ρ (.own (qD C (z : Rat))) ρ1 := by
  have q := a_makeD (p := p) (pos := pos) (fs := [("own_top", .int (Rat.divInt z 1).num), ("own_bottom", .int ((Rat.divInt z 1).den : Int))]) hx cl ha (dds := [.int 1]) (dens_int1 1) ⟨z, 1, rfl, rfl, by decide, by unfold Bd; decide, rfl, rfl⟩ hk hg (by decide) he hpl
  have e : (.obj C [("own_top", .int (Rat.divInt z 1).num), ("own_bottom", .int ((Rat.divInt z 1).den : Int))] : D) = qD C (z : Rat) := congrArg (qD C) (of_int z)
  rw [e] at q
  exact q
end
theorem a_over {X : Cx} {P : Program} {w : World} {K : PySem.W.Frag} {mg : Str → Option Value} {base : Heap} {N : List Str} {j : Nat} {C : Addr} {ρ ρ1 ρ2 : Rho} {o e : Expr} {x : Rat} {d : D} {y : Rat} {apos pos : Pos} {pl : Sem Bool} (hx : Cxt X P w K mg base N j) (cl : Met P w K mg base 4 C "over" (spD K (S_op C (fun x y => y ≠ 0) fun x y => x / y)) []) (ho : PDV X o ρ (qD C x) ρ1) (ha : PAV X [e] ρ1 [qD C y] ρ2) (h1 : Side (Sz 3800 x)) (h2 : Side (Sz 3800 y)) (h3 : Side (y ≠ 0)) (hk : 4 ≤ j := by decide) (hst : starEach [e] X.env = (false, eval e X.env) :: starEach [] X.env := by rfl) (hpl : (backTo pos (starEach [] X.env)).any (·.1) = false := by rfl)
    (ht : eval (.Call (.Attribute o "over" apos) [e] [] pos) X.env = (do
      let ov ← eval o X.env
      standAt apos.atName
      let (f, first) ← holding [ov] (getMethod ov "over" pl)
      callWith pos f first (backTo pos (starEach [e] X.env)) (backToKw pos (keywordEach [] X.env))) := by rfl) : PD X (.Call (.Attribute o "over" apos) [e] [] pos) ρ (.own (qD C (x / y))) ρ2 :=
  a_meth hx cl ho rfl ha (show S_op C _ _ _ _ from ⟨x, qD C y, y, rfl, .q y, h1, h2, h3, rfl⟩) hk hst hpl ht
local macro_rules | `(tactic| eq_refl) => `(tactic| first
  | ((with_reducible change BinD _ (binaryOp Operator.Sub) (qD _ _) (qD _ _) _); (refine' b_q (c := fun _ _ => True) (g := fun x y => x - y) (by assumption) (by assumption) ?_ ?_ trivial))
  | ((with_reducible change BinD _ (binaryOp Operator.Mult) (qD _ _) (qD _ _) _); (refine' b_q (c := fun _ _ => True) (g := fun x y => x * y) (by assumption) (by assumption) ?_ ?_ trivial))
  | ((with_reducible change PD _ (Expr.Call (Expr.Name "len" _) [Expr.Name _ _] [] _) _ _ _); (refine' a_lenO (by assumption) (by assumption) ?_); (repeat ((with_reducible first | change Rho | change D | change Res | change List D | change Int | change Bool | change Nat | change Sl | change Str | change List Rat | change Rat | change Value | change Addr | change List (Str × D) | change Option Int); rotate_left)); (focus ((repeat (with_reducible first | exact Slot.z | apply Slot.s)); done)))
  | ((with_reducible change PD _ (Expr.Call (Expr.Attribute _ "over" _) _ _ _) _ _ _); (refine' a_over (by assumption) (by assumption) ?_ ?_ ?_ ?_ ?_))
  | ((with_reducible change PD _ (Expr.Call (Expr.Name "Ratio" _) _ _ _) _ _ _); (refine' a_ratio1 (by assumption) (by assumption) ?_)))
section
variable {P : Program} {w : World} {K : PySem.W.Frag} {mg : Str → Option Value} {base : Heap} {f C : Addr} {fd : FuncData}
theorem ok_line_parts (F : FunG K "line_parts" "line_parts" s_line_parts f fd) (cv : Met P w K mg base 4 C "over" (spD K (S_op C (fun x y => y ≠ 0) fun x y => x / y)) []) (osub : OwnOp P w K mg base 4 C "sub" (S_op C (fun _ _ => True) fun x y => x - y)) (omul : OwnOp P w K mg base 4 C "mul" (S_op C (fun _ _ => True) fun x y => x * y)) (c3 : Cal false P w K mg base 1 "trimmed" (spD K (S_trimmed C)) []) (mk : Mak P w K mg base 2 "Ratio" C (spIO K (T_init C)) [.int 1]) (hrg : mg "range" = none) (hln : mg "len" = none) (hls : mg "list" = none) (hmx : mg "max" = none) : FnB false P w K mg base 5 f fd ["one", "other"] (spD K (S_line_parts C)) := by
  refine fnA F cs_line_parts (fun ds r ⟨_, _, h, _⟩ => by rw [h]; rfl) (fun cdv A outer s H hX nog ds r h => ?_)
  obtain ⟨l, m, rfl, tl, tm, h0, hl, hm, ⟨Q, fam, hq⟩, rfl⟩ := h
  show PSD _ _ _ [.val _, .val _, .non, .non, .non, .non, .non] _
  repeat ac_rfl
  refine' a_setLc ((List.replicate (l.length + 1 - m.length) ((0 : Int) : Rat)).map (qD C)) (fun _ => [.val (lnD C l), .val (lnD C m), .own (lnD C l), .non, .non, .non, .non]) (by assumption) ?_ ?_ ?_ ?_ ?_ ?_ ?_ ?_ ?_ ?_ ?_
  repeat ac_rfl
  · intro i d y hd hy
    rw [List.getElem?_map] at hy
    obtain ⟨x, hx, rfl⟩ := Option.map_eq_some_iff.mp hy
    rw [List.eq_of_mem_replicate (List.mem_of_getElem? hx)]
    refine' elt_one ?_ ?_ ?_
    repeat ac_rfl
  repeat ac_rfl
  refine' a_while (fun mm ρ' => ∃ (q r : List Rat) (s4 s5 s6 : Sl), mm = r.length ∧ At l m q r ∧ Tr r ∧ (∀ x ∈ r, Q (l.length - r.length) x) ∧ q = q ∧ ρ' = [.val (lnD C l), .val (lnD C m), .own (lnD C r), .own (lnD C q), s4, s5, s6]) l.length ?_ ?_
  · exact ⟨_, l, .non, .non, .non, rfl, at_start l m, tl, fun x hx => by rw [Nat.sub_self]; exact hq x hx, rfl, rfl⟩
  rotate_left
  · rintro mm ρ' ⟨q, r, s4, s5, s6, rfl, at_, tr, hqr, -, rfl⟩
    refine' ⟨decide (((r.map (qD C)).length : Int) ≥ (m.length : Int)), [.val (lnD C l), .val (lnD C m), .own (lnD C r), .own (lnD C q), s4, s5, s6], ?_, ?_, ?_⟩
    · repeat ac_rfl
    · intro z
      have z : m.length ≤ r.length := by have := of_decide_eq_true z; rw [List.length_map] at this; omega
      have lq := at_.len
      have lr := at_.le
      have e1 : atI (r.map (qD C)) (-1) = some (qD C (cf r (r.length - 1))) := atI_ln (ixN_last (by omega)) (by omega)
      have e2 : atI (m.map (qD C)) (-1) = some (qD C (cf m (m.length - 1))) := atI_ln (ixN_last h0) (by omega)
      have s1 : Sz 3800 (cf r (r.length - 1)) := (fam.sz _ _ (by omega) (fam.cf hqr _)).mono (by decide)
      have s2 : Sz 3800 (cf m (m.length - 1)) := (fam.ms _ (by rw [cf_lt (by omega)]; exact List.getElem_mem _)).mono (by decide)
      have ne : cf m (m.length - 1) ≠ 0 := tm.resolve_left (by omega)
      have ix : ixN (q.map (qD C)).length (((r.map (qD C)).length : Int) - (m.length : Int)) = some (r.length - m.length) := by
        rw [List.length_map, List.length_map, show (r.length : Int) - (m.length : Int) = ((r.length - m.length : Nat) : Int) by omega]
        exact ixN_nat' (by omega)
      repeat ac_rfl
      refine' a_for (fun i ρ' => ∃ s6, ρ' = [.val (lnD C l), .val (lnD C m), .own (lnD C (part r m i)), .own (lnD C (q.set (r.length - m.length) (fac r m))), .val (.int (((r.map (qD C)).length : Int) - (m.length : Int))), .val (qD C (fac r m)), s6]) (by assumption) ?_ ?_ ?_ ?_ ?_ ?_
      repeat ac_rfl
      · rintro i d ρ' hd ⟨s6, rfl⟩
        have hi : i < m.length - 1 := by
          have := (List.getElem?_eq_some_iff.mp hd).1
          rw [rng_len] at this
          omega
        rw [rng_get (by omega), Int.zero_add] at hd
        cases hd
        have ixr : ixN ((part r m i).map (qD C)).length (((r.map (qD C)).length : Int) - (m.length : Int) + (i : Int)) = some (r.length - m.length + i) := by
          rw [List.length_map, List.length_map, part_len, show (r.length : Int) - (m.length : Int) + (i : Int) = ((r.length - m.length + i : Nat) : Int) by omega]
          exact ixN_nat' (by omega)
        have ar : atI ((part r m i).map (qD C)) (((r.map (qD C)).length : Int) - (m.length : Int) + (i : Int)) = some (qD C (cf r (r.length - m.length + i))) := by
          have e := atI_ln (C := C) (l := part r m i) (z := ((r.map (qD C)).length : Int) - (m.length : Int) + (i : Int)) (k := r.length - m.length + i) (by rw [List.length_map] at ixr; exact ixr) (by rw [part_len]; omega)
          rw [e, cf_part _ _ _ _ (by omega), if_neg (by omega)]
        have am : atI (m.map (qD C)) (i : Int) = some (qD C (cf m i)) := atI_ln (ixN_nat' (by omega)) (by omega)
        have hn : l.length - r.length < l.length + 1 - m.length := by omega
        have ym : cf m i ∈ m := by rw [cf_lt (by omega)]; exact List.getElem_mem _
        have z1 : Sz 3800 (cf r (r.length - m.length + i)) := (fam.sz _ _ (by omega) (fam.cf hqr _)).mono (by decide)
        have z2 : Sz 3800 (fac r m) := (fam.sz _ _ (by omega) (fam.div _ _ hn (fam.cf hqr _))).mono (by decide)
        have z3 : Sz 3800 (cf m i) := (fam.ms _ ym).mono (by decide)
        have z4 : Sz 3800 (fac r m * cf m i) := (fam.pr _ _ _ hn (fam.cf hqr _) ym).mono (by decide)
        have st : lnD C (part r m (i + 1)) = .lst (((part r m i).map (qD C)).set (r.length - m.length + i) (qD C (cf r (r.length - m.length + i) - fac r m * cf m i))) := by
          rw [← part_set z (by omega)]
          exact congrArg D.lst List.map_set
        repeat ac_rfl
        exact ⟨_, by rw [st]⟩
      · rintro ρ' ⟨s6, rfl⟩
        rw [rng_len, show ((m.length : Int) - 1).toNat = m.length - 1 by omega]
        have tt : S_trimmed C [.lst (cutD ((part r m (m.length - 1)).map (qD C)) none (some (-1)))] (.own (lnD C (trim (dsub r m)))) := by
          refine ⟨dsub r m, ?_, ?_, rfl⟩
          · rw [cut_last, List.length_map, part_len, ← List.map_take, part_end h0 z]
          · rw [dsub_len]; omega
        repeat ac_rfl
        have le : (trim (dsub r m)).length ≤ r.length - 1 := by rw [trim_len]; exact Nat.le_trans (cnt_le _ _) (by rw [dsub_len]; exact Nat.le_refl _)
        exact ⟨_, by omega, _, _, _, _, _, rfl, at_.step tm h0 z (fun i => cf_trim _ i) le, trim_tr _, fun x hx => fam.le (by omega) (fam.dsub (n := l.length - r.length) (by omega) hqr x (by unfold trim at hx; exact List.mem_of_mem_take hx)), rfl, rfl⟩
      rotate_left
      · refine ⟨s6, ?_⟩
        rw [part_zero]
        have st : lnD C (q.set (r.length - m.length) (fac r m)) = .lst ((q.map (qD C)).set (r.length - m.length) (qD C (cf r (r.length - 1) / cf m (m.length - 1)))) := congrArg D.lst List.map_set
        rw [st]
        rfl
      exact D.non
    · intro z
      have z : r.length < m.length := by have := of_decide_eq_false z; rw [List.length_map] at this; omega
      repeat ac_rfl
      obtain ⟨e1, e2⟩ := (at_.done tl tm h0 z).quo tl tm
      rw [trim_of tr] at e2
      rw [← e1, ← e2]
      rfl
end
end Dn
end
section
set_option Elab.async false
set_option linter.all false
set_option maxRecDepth 100000
set_option maxHeartbeats 2000000
set_option exponentiation.threshold 10000
namespace Dn
open PySem PySem.Spec L2
/-! ### the product, by whole numbers -/
/-- the numbers of far, times a, put on found from the at-th place on -/
def addRow (found : List Int) (k : Nat) (a : Int) : List Int → List Int
  | [] => found
  | b :: far => addRow (found.set k (found.getD k 0 + a * b)) (k + 1) a far
def addAll (found : List Int) (k : Nat) (far : List Int) : List Int → List Int
  | [] => found
  | a :: near => addAll (addRow found k a far) (k + 1) far near
theorem addRow_len : ∀ (far : List Int) (found : List Int) (k : Nat) (a : Int), (addRow found k a far).length = found.length
  | [], _, _, _ => rfl
  | b :: far, found, k, a => by
    unfold addRow
    rw [addRow_len far, List.length_set]
theorem addAll_len : ∀ (near : List Int) (far found : List Int) (k : Nat), (addAll found k far near).length = found.length
  | [], _, _, _ => rfl
  | a :: near, far, found, k => by
    unfold addAll
    rw [addAll_len near, addRow_len]
/-- the same over fractions -/
def cz (b : Int) (l : List Int) : Cf := fun i => Rat.divInt (l.getD i 0) b
theorem getD_set (l : List Int) (k i : Nat) (x : Int) (h : k < l.length) : (l.set k x).getD i 0 = if i = k then x else l.getD i 0 := by
  by_cases e : i = k
  · subst e
    rw [if_pos rfl, List.getD_eq_getElem?_getD, List.getElem?_set_self h]
    rfl
  · rw [if_neg e, List.getD_eq_getElem?_getD, List.getElem?_set_ne (fun q => e q.symm), List.getD_eq_getElem?_getD]
theorem addRow_get : ∀ (far : List Int) (found : List Int) (k : Nat) (a : Int) (i : Nat), k + far.length ≤ found.length → (addRow found k a far).getD i 0 = found.getD i 0 + (if k ≤ i then a * far.getD (i - k) 0 else 0)
  | [], found, k, a, i, h => by
    show found.getD i 0 = _
    split
    · simp
    · simp
  | b :: far, found, k, a, i, h => by
    rw [List.length_cons] at h
    unfold addRow
    rw [addRow_get far _ (k + 1) a i (by rw [List.length_set]; omega), getD_set _ _ _ _ (by omega)]
    by_cases e : i = k
    · subst e
      rw [if_pos rfl, if_neg (by omega), if_pos (Nat.le_refl _), Nat.sub_self]
      simp
    · rw [if_neg e]
      by_cases q : k ≤ i
      · obtain ⟨m, hm⟩ : ∃ m, i - k = m + 1 := ⟨i - k - 1, by omega⟩
        have e2 : i - (k + 1) = m := by omega
        rw [if_pos q, if_pos (by omega), hm, e2]
        rfl
      · rw [if_neg q, if_neg (by omega)]
theorem divInt_zero' (c : Int) : Rat.divInt 0 c = 0 := by simp
theorem addAll_get {c d : Int} (hc : c * d ≠ 0) : ∀ (near : List Int) (far found : List Int) (k i : Nat), k + near.length + far.length ≤ found.length + 1 → Rat.divInt ((addAll found k far near).getD i 0) (c * d) = Rat.divInt (found.getD i 0) (c * d) + (if k ≤ i then conv (cz c near) (cz d far) (i - k) else 0)
  | [], far, found, k, i, h => by
    show Rat.divInt (found.getD i 0) (c * d) = _
    have e : ∀ n, conv (cz c []) (cz d far) n = 0 := fun n => conv_ge.conv_zero n _ _ fun j => by
      show Rat.divInt ([].getD j 0) c = 0
      simp
    split
    · rw [e, Rat.add_zero]
    · rw [Rat.add_zero]
  | a :: near, far, found, k, i, h => by
    rw [List.length_cons] at h
    unfold addAll
    rw [addAll_get hc near far _ (k + 1) i (by rw [addRow_len]; omega), addRow_get _ _ _ _ _ (by omega), divInt_add' _ _ _ hc]
    by_cases q : k ≤ i
    · rw [if_pos q, if_pos q, divInt_mul', Rat.add_assoc]
      refine congrArg (Rat.divInt (found.getD i 0) (c * d) + ·) ?_
      by_cases e : i = k
      · subst e
        rw [if_neg (by omega), Nat.sub_self, Rat.add_zero]
        rfl
      · obtain ⟨m, hm⟩ : ∃ m, i - k = m + 1 := ⟨i - k - 1, by omega⟩
        have e2 : i - (k + 1) = m := by omega
        rw [if_pos (by omega), hm, e2]
        rfl
    · rw [if_neg q, if_neg q, if_neg (by omega), divInt_zero', Rat.add_zero, Rat.add_zero]
/-- the common bottom -/
def lcmF (l : List Rat) : Nat := l.foldl (fun b x => Nat.lcm b x.den) 1
theorem lcm_fold_dvd : ∀ (l : List Rat) (b : Nat), b ∣ l.foldl (fun b x => Nat.lcm b x.den) b ∧ ∀ x ∈ l, x.den ∣ l.foldl (fun b x => Nat.lcm b x.den) b
  | [], b => ⟨Nat.dvd_refl _, fun x h => nomatch h⟩
  | y :: l, b => by
    obtain ⟨h1, h2⟩ := lcm_fold_dvd l (Nat.lcm b y.den)
    refine ⟨Nat.dvd_trans (Nat.dvd_lcm_left _ _) h1, fun x hx => ?_⟩
    rcases List.mem_cons.mp hx with rfl | hx
    · exact Nat.dvd_trans (Nat.dvd_lcm_right _ _) h1
    · exact h2 x hx
theorem lcm_fold_pos : ∀ (l : List Rat) (b : Nat), 0 < b → 0 < l.foldl (fun b x => Nat.lcm b x.den) b
  | [], b, h => h
  | y :: l, b, h => lcm_fold_pos l _ (Nat.lcm_pos h y.den_pos)
theorem lcmF_pos (l : List Rat) : 0 < lcmF l := lcm_fold_pos l 1 (by decide)
def whN (b : Nat) (x : Rat) : Int := x.num * ((b : Int) / (x.den : Int))
theorem whN_eq {b : Nat} {x : Rat} (hb : 0 < b) (h : x.den ∣ b) : Rat.divInt (whN b x) b = x := by
  obtain ⟨c, rfl⟩ := h
  have hd := x.den_pos
  have hc : 0 < c := Nat.pos_of_mul_pos_left hb
  have e : (((x.den * c : Nat) : Int) / (x.den : Int)) = (c : Int) := by
    rw [Int.natCast_mul]
    exact Int.mul_ediv_cancel_left _ (by omega)
  unfold whN
  rw [e, Int.natCast_mul, divInt_mul', Rat.num_divInt_den]
  have : Rat.divInt (c : Int) (c : Int) = 1 := by
    rw [Rat.divInt_self']
    omega
  rw [this, Rat.mul_one]
theorem cz_wholes (l : List Rat) (i : Nat) : cz (lcmF l) (l.map (whN (lcmF l))) i = cf l i := by
  unfold cz
  by_cases h : i < l.length
  · rw [cf_lt h, List.getD_eq_getElem?_getD, List.getElem?_map, List.getElem?_eq_getElem h]
    exact whN_eq (lcmF_pos l) ((lcm_fold_dvd l 1).2 _ (List.getElem_mem h))
  · rw [cf_ge (by omega), List.getD_eq_getElem?_getD, List.getElem?_map, List.getElem?_eq_none (by omega)]
    simp
/-- the whole product -/
theorem prod_eq (l m : List Rat) (hl : l ≠ []) (hm : m ≠ []) : trim ((addAll (List.replicate (l.length + m.length - 1) 0) 0 (m.map (whN (lcmF m))) (l.map (whN (lcmF l)))).map fun t => Rat.divInt t ((lcmF l : Int) * (lcmF m : Int))) = pMul l m := by
  have p1 := lcmF_pos l
  have p2 := lcmF_pos m
  have hc : ((lcmF l : Nat) : Int) * ((lcmF m : Nat) : Int) ≠ 0 := mul_ne (by omega) (by omega)
  have l1 : 0 < l.length := Nat.pos_of_ne_zero fun e => hl (List.eq_nil_of_length_eq_zero e)
  have l2 : 0 < m.length := Nat.pos_of_ne_zero fun e => hm (List.eq_nil_of_length_eq_zero e)
  refine trim_eq (pMul_tr l m) fun i => ?_
  rw [cf_pMul]
  have key := addAll_get (c := (lcmF l : Int)) (d := (lcmF m : Int)) hc (l.map (whN (lcmF l))) (m.map (whN (lcmF m))) (List.replicate (l.length + m.length - 1) 0) 0 i (by rw [List.length_map, List.length_map, List.length_replicate]; omega)
  rw [if_pos (Nat.zero_le _), Nat.sub_zero, conv_congr (fun i => cz_wholes l i) (fun i => cz_wholes m i)] at key
  have z : (List.replicate (l.length + m.length - 1) (0 : Int)).getD i 0 = 0 := by
    rw [List.getD_eq_getElem?_getD, List.getElem?_replicate]
    split <;> rfl
  rw [z, divInt_zero', Rat.zero_add] at key
  rw [← key]
  unfold cf
  rw [List.getD_eq_getElem?_getD, List.getElem?_map, List.getD_eq_getElem?_getD]
  cases (addAll (List.replicate (l.length + m.length - 1) 0) 0 (m.map (whN (lcmF m))) (l.map (whN (lcmF l))))[i]? with
  | none => exact (divInt_zero' _).symm
  | some t => rfl
section
variable {P : Program} {w : World} {K : PySem.W.Frag} {mg : Str → Option Value} {base : Heap} {f C : Addr} {fd : FuncData}
/-- the bottoms' common multiple stays below 2 ^ 60 all the way, the bottoms are small -/
def Lcm60 (l : List Rat) : Prop := (∀ i, (lcmF (l.take i)) < 2 ^ 60) ∧ ∀ x ∈ l, Sz 2000 x ∧ Bd 60 (x.den : Int)
theorem lcmF_app (l : List Rat) (x : Rat) : lcmF (l ++ [x]) = Nat.lcm (lcmF l) x.den := by
  unfold lcmF
  rw [List.foldl_append]
  rfl
theorem Lcm60.all {l : List Rat} (h : Lcm60 l) : lcmF l < 2 ^ 60 := by
  have := h.1 l.length
  rwa [List.take_length] at this
def S_wholes (C : Addr) : List D → Res → Prop := fun ds r => ∃ l : List Rat, ds = [lnD C l] ∧ l.length ≤ 1000000 ∧ Lcm60 l ∧ r = .val (.tup [.int (lcmF l : Int), .lst ((l.map (whN (lcmF l))).map D.int)])
theorem ok_wholes (F : FunG K "wholes" "wholes" s_wholes f fd) (R : Rc K mg C) (hlcm : mg "lcm" = some (.builtin "math.lcm")) : FnB false P w K mg base 1 f fd ["ratios"] (spD K (S_wholes C)) := by
  refine fnD F cs_wholes (fun ds r ⟨_, h, _⟩ => by rw [h]; rfl) (fun cdv A outer s H hr nog ds r h => ?_)
  obtain ⟨l, rfl, hll, hz, rfl⟩ := h
  have nd := cs_wholes.nd
  refine psd_st (ps1_set 1 nd pd_int) ?_
  refine psd_for (fun i ρ' => ∃ p : Sl, ρ' = [.val (lnD C l), .val (.int (lcmF (l.take i) : Int)), p]) PassesOwn.never (pid_list (pd_var 0)) (pgd_name 2 nd) ⟨_, rfl⟩ ?_ ?_
  · rintro i d ρ' hd ⟨p, rfl⟩
    rw [List.getElem?_map] at hd
    obtain ⟨x, hi, rfl⟩ := Option.map_eq_some_iff.mp hd
    have hs := hz.2 x (List.mem_of_getElem? hi)
    have h1 := hz.1 i
    refine ⟨_, rfl, psd_st (ps1_set 1 nd (pd_callG (cd_lcm (i := (lcmF (l.take i) : Int)) (j := (x.den : Int)) (by omega) (Nat.lt_trans hs.2 (by decide))) hlcm (pad_cons (pd_var 1) (pad_cons (pd_fld (pd_var 2) R.cl R.nB rfl) pad_nil)))) (psd_nil ⟨.val (qD C x), ?_⟩)⟩
    rw [take_step hi, lcmF_app]
    rfl
  · rintro ρ' ⟨p, rfl⟩
    rw [List.length_map, List.take_length]
    have hb := hz.all
    refine psd_ret (pd_tup (pad_cons (pd_var 1) (pad_cons (pd_still (pd_map (ys := (l.map (whN (lcmF l))).map D.int) [("ratio", 2)] nd (pid_list (pd_var 0)) (fun s H C cl fp => pgd_name 2 nd) (by simp) (fun i d y h1 h2 => ?_) (by rw [List.length_map]; exact hll))) pad_nil))) rfl
    rw [List.getElem?_map] at h1
    obtain ⟨x, hx, rfl⟩ := Option.map_eq_some_iff.mp h1
    rw [List.getElem?_map, List.getElem?_map, hx] at h2
    cases h2
    have hs := hz.2 x (List.mem_of_getElem? hx)
    have bb : Bd 60 (lcmF l : Int) := hb
    have ed : (lcmF l : Int).fdiv (x.den : Int) = (lcmF l : Int) / (x.den : Int) := Int.fdiv_eq_ediv_of_nonneg _ (Int.le_of_lt (den_pos x))
    have bq : Bd 61 ((lcmF l : Int) / (x.den : Int)) := by
      have : ((lcmF l : Int) / (x.den : Int)) ≤ (lcmF l : Int) := Int.ediv_le_self _ (by omega)
      have : 0 ≤ ((lcmF l : Int) / (x.den : Int)) := Int.ediv_nonneg (by omega) (Int.le_of_lt (den_pos x))
      unfold Bd at *
      omega
    refine ⟨_, _, rfl, fun s H C' cl fp => pd_cast (pd_bin (pd_fld (pd_var 2) R.cl R.nT rfl) (pd_cast (pd_bin (pd_var 1) (pd_fld (pd_var 2) R.cl R.nB rfl) (bd_divA (hs.2.cdiv _ (den_ne x)))) (congrArg D.int ed)) (bd_mul (hs.1.1.cmul bq))) rfl, rfl⟩
def S_line_product (C : Addr) : List D → Res → Prop := fun ds r => ∃ l m : List Rat, ds = [lnD C l, lnD C m] ∧ l.length ≤ 400 ∧ m.length ≤ 400 ∧ Lcm60 l ∧ Lcm60 m ∧ r = .own (lnD C (pMul l m))
theorem whN_bd {l : List Rat} (h : Lcm60 l) {x : Rat} (hx : x ∈ l) : Bd 2061 (whN (lcmF l) x) := by
  have hb := h.all
  have bq : Bd 61 ((lcmF l : Int) / (x.den : Int)) := by
    have : ((lcmF l : Int) / (x.den : Int)) ≤ (lcmF l : Int) := Int.ediv_le_self _ (by omega)
    have : 0 ≤ ((lcmF l : Int) / (x.den : Int)) := Int.ediv_nonneg (by omega) (Int.le_of_lt (den_pos x))
    unfold Bd at *
    omega
  exact (h.2 x hx).1.1.mul bq
theorem addAll_app : ∀ (near : List Int) (far found : List Int) (k : Nat) (a : Int), addAll found k far (near ++ [a]) = addRow (addAll found k far near) (k + near.length) a far
  | [], far, found, k, a => rfl
  | b :: near, far, found, k, a => by
    show addAll (addRow found k b far) (k + 1) far (near ++ [a]) = addRow (addAll (addRow found k b far) (k + 1) far near) (k + (near.length + 1)) a far
    rw [addAll_app near, show k + 1 + near.length = k + (near.length + 1) by omega]
theorem addRow_app : ∀ (far found : List Int) (k : Nat) (a b : Int), addRow found k a (far ++ [b]) = (addRow found k a far).set (k + far.length) ((addRow found k a far).getD (k + far.length) 0 + a * b)
  | [], found, k, a, b => rfl
  | c :: far, found, k, a, b => by
    show addRow (found.set k (found.getD k 0 + a * c)) (k + 1) a (far ++ [b]) = (addRow (found.set k (found.getD k 0 + a * c)) (k + 1) a far).set (k + (far.length + 1)) ((addRow (found.set k (found.getD k 0 + a * c)) (k + 1) a far).getD (k + (far.length + 1)) 0 + a * b)
    rw [addRow_app far, show k + 1 + far.length = k + (far.length + 1) by omega]
theorem ixN_nat {n k : Nat} (h : k < n) : ixN n (k : Int) = some k := by
  unfold ixN
  rw [if_pos (by omega), if_pos (by omega)]
  simp
theorem atI_ints {l : List Int} {k : Nat} (h : k < l.length) : atI (l.map D.int) (k : Int) = some (.int (l.getD k 0)) := by
  refine atI_nat ?_
  rw [List.getElem?_map, List.getElem?_eq_getElem h, List.getD_eq_getElem?_getD, List.getElem?_eq_getElem h]
  rfl
theorem map_set_int (l : List Int) (k : Nat) (x : Int) : (l.map D.int).set k (.int x) = (l.set k x).map D.int := by rw [List.map_set]
theorem ok_line_product (F : FunG K "line_product" "line_product" s_line_product f fd) (c1 : Cal false P w K mg base 1 "wholes" (spD K (S_wholes C)) []) (c2 : Cal false P w K mg base 4 "line_over" (spD K (S_line_over C)) []) (hl : mg "len" = none) (hrg : mg "range" = none) (hen : mg "enumerate" = none) : FnB false P w K mg base 5 f fd ["one", "other"] (spD K (S_line_product C)) := by
  refine fnD F cs_line_product (fun ds r ⟨_, _, h, _⟩ => by rw [h]; rfl) (fun cdv A outer s H hr nog ds r h => ?_)
  obtain ⟨l, m, rfl, hll, hml, zl, zm, rfl⟩ := h
  have nd := cs_line_product.nd
  by_cases l0 : l = []
  · refine psd_ifT (ptd_eq (pwd_or (l := true) (ptd_cmp (pd_callB (cd_len (ln_len (l := l))) hl (pad_cons (pd_var 0) pad_nil)) pd_int bd_eqI rfl) fun h => absurd h (by rw [l0]; decide)).pt (by rw [l0]; rfl)) (psd_ret (pd_lst pad_nil) ?_)
    rw [l0, pMul_nil_l]
    rfl
  have ll : 0 < l.length := Nat.pos_of_ne_zero fun e => l0 (List.eq_nil_of_length_eq_zero e)
  by_cases m0 : m = []
  · refine psd_ifT (ptd_eq (pwd_or (ptd_cmp (pd_callB (cd_len (ln_len (l := l))) hl (pad_cons (pd_var 0) pad_nil)) pd_int bd_eqI rfl) fun _ => pwd_or1 (ptd_cmp (pd_callB (cd_len (ln_len (l := m))) hl (pad_cons (pd_var 1) pad_nil)) pd_int bd_eqI rfl)).pt (by rw [m0, Bool.or_comm]; rfl)) (psd_ret (pd_lst pad_nil) ?_)
    rw [m0, pMul_nil_r]
    rfl
  have ml : 0 < m.length := Nat.pos_of_ne_zero fun e => m0 (List.eq_nil_of_length_eq_zero e)
  refine psd_skip (ptd_eq (pwd_or (ptd_cmp (pd_callB (cd_len (ln_len (l := l))) hl (pad_cons (pd_var 0) pad_nil)) pd_int bd_eqI rfl) fun _ => pwd_or1 (ptd_cmp (pd_callB (cd_len (ln_len (l := m))) hl (pad_cons (pd_var 1) pad_nil)) pd_int bd_eqI rfl)).pt (by rw [decide_eq_false (by omega), decide_eq_false (by omega)]; rfl)) ?_
  refine psd_st (ps1_two 2 3 nd (pd_call c1 hr (pad_cons (pd_var 0) pad_nil) ⟨l, rfl, by omega, zl, rfl⟩)) ?_
  refine psd_st (ps1_two 4 5 nd (pd_call c1 hr (pad_cons (pd_var 1) pad_nil) ⟨m, rfl, by omega, zm, rfl⟩)) ?_
  have bn : ∀ a ∈ l.map (whN (lcmF l)), Bd 2061 a := fun a ha => by
    obtain ⟨x, hx, rfl⟩ := List.mem_map.mp ha
    exact whN_bd zl hx
  have bf : ∀ a ∈ m.map (whN (lcmF m)), Bd 2061 a := fun a ha => by
    obtain ⟨x, hx, rfl⟩ := List.mem_map.mp ha
    exact whN_bd zm hx
  obtain ⟨near, hnear⟩ : ∃ near, near = l.map (whN (lcmF l)) := ⟨_, rfl⟩
  obtain ⟨far, hfar⟩ : ∃ far, far = m.map (whN (lcmF m)) := ⟨_, rfl⟩
  rw [← hnear] at bn
  rw [← hfar] at bf
  rw [← hnear, ← hfar]
  have nl : near.length = l.length := by rw [hnear, List.length_map]
  have fl : far.length = m.length := by rw [hfar, List.length_map]
  have lnl : lenD (.lst (near.map D.int)) = some near.length := by
    show some _ = some _
    rw [List.length_map]
  have lfl : lenD (.lst (far.map D.int)) = some far.length := by
    show some _ = some _
    rw [List.length_map]
  have en : ((near.length : Int) + (far.length : Int) - 1).toNat = l.length + m.length - 1 := by omega
  refine psd_st (ps1_map 6 [("at", 7)] nd (pid_range1 hrg (pd_bin (pd_bin (pd_callB (cd_len lnl) hl (pad_cons (pd_var 3) pad_nil)) (pd_callB (cd_len lfl) hl (pad_cons (pd_var 5) pad_nil)) bd_add) pd_int bd_sub) (by omega) (by omega)) (fun s H C cl fp => pgd_name 7 nd) (ys := (List.replicate (l.length + m.length - 1) (0 : Int)).map D.int) (by rw [List.length_map, List.length_replicate, rng_len, en]) (fun i d y h1 h2 => ?_) (by rw [rng_len]; omega)) ?_
  · rw [List.getElem?_map, List.getElem?_replicate] at h2
    split at h2
    · cases h2
      exact ⟨_, _, rfl, fun s H C' cl fp => pd_int, rfl⟩
    · cases h2
  obtain ⟨z, hz⟩ : ∃ z, z = List.replicate (l.length + m.length - 1) (0 : Int) := ⟨_, rfl⟩
  have zlen : z.length = l.length + m.length - 1 := by rw [hz, List.length_replicate]
  rw [← hz]
  refine psd_for (fun i ρ' => ∃ s7 s8 s9 s10 : Sl, ρ' = [.val (lnD C l), .val (lnD C m), .val (.int (lcmF l : Int)), .val (.lst (near.map D.int)), .val (.int (lcmF m : Int)), .val (.lst (far.map D.int)), .own (.lst ((addAll z 0 far (near.take i)).map D.int)), s7, s8, s9, s10]) PassesOwn.never (pid_enum hen (pad_cons (pd_var 3) pad_nil)) (pgd_tup (n := 2) rfl (pgd_cons (pgd_name 7 nd) (pgd_cons (pgd_name 8 nd) pgd_nil))) ⟨_, _, _, _, rfl⟩ ?_ ?_
  · rintro i d ρ' hd ⟨s7, s8, s9, s10, rfl⟩
    obtain ⟨a, ha, hi, rfl⟩ : ∃ a, near[i]? = some a ∧ i < near.length ∧ d = .tup [.int (i : Int), .int a] := by
      rw [List.getElem?_zipWith] at hd
      cases h1 : near[i]? with
      | none =>
        rw [List.getElem?_map, h1] at hd
        revert hd
        cases (rng 0 (near.map D.int).length)[i]? <;> intro hd <;> cases hd
      | some a =>
        have hi := (List.getElem?_eq_some_iff.mp h1).1
        rw [List.getElem?_map, h1, rng_get (by rw [List.length_map]; exact hi), Int.zero_add] at hd
        cases hd
        exact ⟨a, rfl, hi, rfl⟩
    refine ⟨_, ⟨_, .inl rfl, rfl, _, _, _, rfl, rfl, _, _, _, rfl, rfl, rfl, rfl⟩, ?_⟩
    have ba := bn a (List.mem_of_getElem? ha)
    have lz : (addAll z 0 far (near.take i)).length = l.length + m.length - 1 := by rw [addAll_len, zlen]
    obtain ⟨g, hg⟩ : ∃ g, g = addAll z 0 far (near.take i) := ⟨_, rfl⟩
    have hnx : addAll z 0 far (near.take (i + 1)) = addRow g i a far := by
      rw [take_step ha, addAll_app, ← hg, List.length_take, Nat.zero_add, Nat.min_eq_left (Nat.le_of_lt hi)]
    rw [← hg] at lz ⊢
    refine psd_for (fun j ρ' => ∃ s9 s10 : Sl, ρ' = [.val (lnD C l), .val (lnD C m), .val (.int (lcmF l : Int)), .val (.lst (near.map D.int)), .val (.int (lcmF m : Int)), .val (.lst (far.map D.int)), .own (.lst ((addRow g i a (far.take j)).map D.int)), .val (.int (i : Int)), .val (.int a), s9, s10]) PassesOwn.never (pid_enum hen (pad_cons (pd_var 5) pad_nil)) (pgd_tup (n := 2) rfl (pgd_cons (pgd_name 9 nd) (pgd_cons (pgd_name 10 nd) pgd_nil))) ⟨_, _, rfl⟩ ?_ ?_
    · rintro j d ρ' hd ⟨s9, s10, rfl⟩
      obtain ⟨b, hb, hj, rfl⟩ : ∃ b, far[j]? = some b ∧ j < far.length ∧ d = .tup [.int (j : Int), .int b] := by
        rw [List.getElem?_zipWith] at hd
        cases h1 : far[j]? with
        | none =>
          rw [List.getElem?_map, h1] at hd
          revert hd
          cases (rng 0 (far.map D.int).length)[j]? <;> intro hd <;> cases hd
        | some a =>
          have hi := (List.getElem?_eq_some_iff.mp h1).1
          rw [List.getElem?_map, h1, rng_get (by rw [List.length_map]; exact hi), Int.zero_add] at hd
          cases hd
          exact ⟨a, rfl, hi, rfl⟩
      have bb := bf b (List.mem_of_getElem? hb)
      have lr : (addRow g i a (far.take j)).length = l.length + m.length - 1 := by rw [addRow_len, lz]
      have hk : i + j < (addRow g i a (far.take j)).length := by rw [lr]; omega
      have ei : (i : Int) + (j : Int) = ((i + j : Nat) : Int) := by omega
      refine ⟨_, ⟨_, .inl rfl, rfl, _, _, _, rfl, rfl, _, _, _, rfl, rfl, rfl, rfl⟩, ?_⟩
      refine psd_st (ps1_sub 6 (pd_bin (pd_ixO 6 (pd_bin (pd_var 7) (pd_var 9) bd_add) (h := by rw [ei]; exact atI_ints hk)) (pd_bin (pd_var 8) (pd_var 10) (bd_mul (ba.cmul bb))) bd_add) (pd_bin (pd_var 7) (pd_var 9) bd_add) (hj := by rw [ei, List.length_map]; exact ixN_nat hk)) (psd_nil ⟨.val (.int (j : Int)), .val (.int b), ?_⟩)
      rw [map_set_int, take_step hb, addRow_app, List.length_take, Nat.min_eq_left (Nat.le_of_lt hj)]
      rfl
    · rintro ρ' ⟨s9, s10, rfl⟩
      refine psd_nil ⟨.val (.int (i : Int)), .val (.int a), s9, s10, ?_⟩
      have e1 : (List.zipWith (fun x y => D.tup [x, y]) (rng 0 (far.map D.int).length) (far.map D.int)).length = far.length := by
        rw [List.length_zipWith, rng_len, List.length_map]
        omega
      rw [e1, List.take_length, hnx]
  rintro ρ' ⟨s7, s8, s9, s10, rfl⟩
  have e1 : (List.zipWith (fun x y => D.tup [x, y]) (rng 0 (near.map D.int).length) (near.map D.int)).length = near.length := by
    rw [List.length_zipWith, rng_len, List.length_map]
    omega
  rw [e1, List.take_length]
  have p1 := lcmF_pos l
  have p2 := lcmF_pos m
  have b1 : Bd 60 (lcmF l : Int) := zl.all
  have b2 : Bd 60 (lcmF m : Int) := zm.all
  refine psd_still 6 rfl ?_
  refine psd_ret (pd_call c2 hr (pad_cons (pd_var 6) (pad_cons (pd_bin (pd_var 2) (pd_var 4) (bd_mul (b1.cmul b2))) pad_nil)) ⟨_, _, rfl, by rw [addAll_len, zlen]; omega, mul_ne (by omega) (by omega), (b1.mul b2).mono (by decide), rfl⟩) ?_
  refine congrArg (fun q => Res.own (lnD C q)) ?_
  rw [hz, hnear, hfar]
  exact prod_eq l m l0 m0
end
end Dn
end
section
set_option Elab.async false
set_option linter.all false
set_option maxRecDepth 100000
set_option maxHeartbeats 2000000
set_option exponentiation.threshold 10000
namespace Dn
open PySem PySem.Spec L2
theorem trim_map_scl (l : List Rat) (c : Rat) : trim (l.map (· * c)) = pScl l c := by
  unfold pScl
  refine trim_ext fun i => ?_
  rw [cf_ofF]
  by_cases h : i < l.length
  · rw [if_pos h, cf_lt (by rw [List.length_map]; exact h), cf_lt h, List.getElem_map]
  · rw [if_neg h, cf_ge (by rw [List.length_map]; omega)]
section
variable {P : Program} {w : World} {K : PySem.W.Frag} {mg : Str → Option Value} {base : Heap} {f C : Addr} {fd : FuncData}
def S_line_by (C : Addr) : List D → Res → Prop := fun ds r => ∃ (l : List Rat) (c : Rat), ds = [lnD C l, qD C c] ∧ l.length ≤ 1000000 ∧ (∀ x ∈ l, Sz 3800 x) ∧ Sz 3800 c ∧ r = .own (lnD C (pScl l c))
theorem ok_line_by (F : FunG K "line_by" "line_by" s_line_by f fd) (o : OwnOp P w K mg base 4 C "mul" (S_op C (fun _ _ => True) fun x y => x * y)) (c3 : Cal false P w K mg base 1 "trimmed" (spD K (S_trimmed C)) []) : FnB false P w K mg base 5 f fd ["line", "ratio"] (spD K (S_line_by C)) := by
  refine fnD F cs_line_by (fun ds r ⟨_, _, h, _⟩ => by rw [h]; rfl) (fun cdv A outer s H hr nog ds r h => ?_)
  obtain ⟨l, c, rfl, hl, sl, sc, rfl⟩ := h
  have nd := cs_line_by.nd
  refine psd_ret (pd_call c3 hr (pad_cons (pd_still (pd_map (ys := (l.map (· * c)).map (qD C)) [("number", 2)] nd (pid_list (pd_var 0)) (fun s H C cl fp => pgd_name 2 nd) (by simp) (fun i d y h1 h2 => ?_) (by rw [List.length_map]; exact hl))) pad_nil) ⟨_, rfl, by rw [List.length_map]; exact hl, rfl⟩) (congrArg (fun q => Res.own (lnD C q)) (trim_map_scl l c))
  rw [List.getElem?_map] at h1
  obtain ⟨x, hx, rfl⟩ := Option.map_eq_some_iff.mp h1
  rw [List.getElem?_map, List.getElem?_map, hx] at h2
  cases h2
  exact ⟨_, _, rfl, fun s H C' cl fp => pd_still (pd_bin (pd_var 2) (pd_var 1) (bd_q (g := fun x y => x * y) o hr (sl x (List.mem_of_getElem? hx)) sc trivial)), rfl⟩
theorem pScl_len (l : List Rat) (c : Rat) : (pScl l c).length ≤ l.length := by
  unfold pScl
  rw [trim_len]
  exact Nat.le_trans (cnt_le _ _) (by rw [ofF_len]; exact Nat.le_refl _)
end
end Dn
end
section
set_option Elab.async false
set_option linter.all false
set_option maxRecDepth 100000
set_option maxHeartbeats 2000000
set_option exponentiation.threshold 10000
namespace Dn
open PySem PySem.Spec L2
theorem pAdd_trim (l m : List Rat) : pAdd (trim l) (trim m) = pAdd l m := tr_ext (pAdd_tr _ _) (pAdd_tr _ _) fun i => by rw [cf_pAdd, cf_pAdd, cf_trim, cf_trim]
theorem pScl_trim (l : List Rat) (c : Rat) : pScl (trim l) c = pScl l c := tr_ext (pScl_tr _ _) (pScl_tr _ _) fun i => by rw [cf_pScl, cf_pScl, cf_trim]
theorem pMul_trim (l m : List Rat) : pMul (trim l) (trim m) = pMul l m := tr_ext (pMul_tr _ _) (pMul_tr _ _) fun i => by
  rw [cf_pMul, cf_pMul]
  exact conv_congr (cf_trim l) (cf_trim m) i
section
variable {P : Program} {w : World} {K : PySem.W.Frag} {mg : Str → Option Value} {base : Heap} {f C : Addr} {fd : FuncData}
theorem Giv.len {d : D} {xs : List Rat} (h : Giv C d xs) : xs.length ≤ 31 := by
  obtain ⟨dl, _, hn, hl⟩ := h
  rw [← hn.length]
  exact hl
def S_want_at_most : List D → Res → Prop := fun ds r => ∃ (x : Str) (a b : Int), ds = [.str x, .int a, .int b] ∧ b ≤ a ∧ r = .val .non
theorem ok_want_at_most (F : FunG K "want_at_most" "want_at_most" s_want_at_most f fd) : FnB false P w K mg base 1 f fd ["what", "limit", "number"] (spD K S_want_at_most) := by
  refine fnD F cs_want_at_most (fun ds r ⟨_, _, _, h, _⟩ => by rw [h]; rfl) (fun cdv A outer s H hr nog ds r h => ?_)
  obtain ⟨x, a, b, rfl, hb, rfl⟩ := h
  exact psd_skip (ptd_eq (ptd_cmp (pd_var 2) (pd_var 1) bd_gt rfl) (decide_eq_false (by omega))) (psd_nil rfl)
def degN (l : List Rat) : Int := if (l.length : Int) - 1 > 0 then (l.length : Int) - 1 else 0
def S_degree_from_nought (C : Addr) : List D → Res → Prop := fun ds r => ∃ l : List Rat, ds = [lnD C l] ∧ r = .val (.int (degN l))
theorem ok_degree_from_nought (F : FunG K "degree_from_nought" "degree_from_nought" s_degree_from_nought f fd) (hl : mg "len" = none) (hx : mg "max" = none) : FnB false P w K mg base 1 f fd ["line"] (spD K (S_degree_from_nought C)) := by
  refine fnD F cs_degree_from_nought (fun ds r ⟨_, h, _⟩ => by rw [h]; rfl) (fun cdv A outer s H hr nog ds r h => ?_)
  obtain ⟨l, rfl, rfl⟩ := h
  exact psd_ret (pd_callB cd_max hx (pad_cons pd_int (pad_cons (pd_bin (pd_callB (cd_len (ln_len (l := l))) hl (pad_cons (pd_var 0) pad_nil)) pd_int bd_sub) pad_nil))) rfl
theorem ok_told (F : FunG K "told" "told" s_told f fd) (c1 : Cal false P w K mg base 5 "want_line" (spD K (S_want_line C)) []) : FnB false P w K mg base 6 f fd ["line"] (spD K (S_want_line C)) := by
  refine fnD F cs_told (fun ds r ⟨_, _, h, _⟩ => by rw [h]; rfl) (fun cdv A outer s H hr nog ds r h => ?_)
  obtain ⟨d, xs, rfl, hg, rfl⟩ := h
  exact psd_ret (pd_call c1 hr (pad_cons (pd_var 0) pad_nil) ⟨d, xs, rfl, hg, rfl⟩) rfl
def S_degree (C : Addr) : List D → Res → Prop := fun ds r => ∃ d xs, ds = [d] ∧ Giv C d xs ∧ r = .val (.int (((trim xs).length : Int) - 1))
theorem ok_degree (F : FunG K "degree" "degree" s_degree f fd) (c1 : Cal false P w K mg base 5 "want_line" (spD K (S_want_line C)) []) (hl : mg "len" = none) : FnB false P w K mg base 6 f fd ["line"] (spD K (S_degree C)) := by
  refine fnD F cs_degree (fun ds r ⟨_, _, h, _⟩ => by rw [h]; rfl) (fun cdv A outer s H hr nog ds r h => ?_)
  obtain ⟨d, xs, rfl, hg, rfl⟩ := h
  exact psd_ret (pd_bin (pd_callB (cd_len (ln_len (C := C) (l := trim xs))) hl (pad_cons (pd_still (pd_call c1 hr (pad_cons (pd_var 0) pad_nil) ⟨d, xs, rfl, hg, rfl⟩)) pad_nil)) pd_int bd_sub) rfl
def S_two_lines (C : Addr) : List D → Res → Prop := fun ds r => ∃ d xs e ys, ds = [d, e] ∧ Giv C d xs ∧ Giv C e ys ∧ r = .val (.tup [lnD C (trim xs), lnD C (trim ys)])
theorem ok_two_lines (F : FunG K "two_lines" "two_lines" s_two_lines f fd) (c1 : Cal false P w K mg base 5 "want_line" (spD K (S_want_line C)) []) : FnB false P w K mg base 6 f fd ["line", "other"] (spD K (S_two_lines C)) := by
  refine fnD F cs_two_lines (fun ds r ⟨_, _, _, _, h, _⟩ => by rw [h]; rfl) (fun cdv A outer s H hr nog ds r h => ?_)
  obtain ⟨d, xs, e, ys, rfl, hx, hy, rfl⟩ := h
  refine psd_st (ps1_set 2 cs_two_lines.nd (pd_still (pd_call c1 hr (pad_cons (pd_var 0) pad_nil) ⟨d, xs, rfl, hx, rfl⟩))) ?_
  exact psd_ret (pd_tup (pad_cons (pd_var 2) (pad_cons (pd_still (pd_call c1 hr (pad_cons (pd_var 1) pad_nil) ⟨e, ys, rfl, hy, rfl⟩)) pad_nil))) rfl
/-- of two lines given -/
def S_two (C : Addr) (c : List Rat → List Rat → Prop) (g : List Rat → List Rat → List Rat) : List D → Res → Prop := fun ds r => ∃ d xs e ys, ds = [d, e] ∧ Giv C d xs ∧ Giv C e ys ∧ c xs ys ∧ r = .own (lnD C (g xs ys))
abbrev cPlus : List Rat → List Rat → Prop := fun xs ys => (∀ x ∈ xs, Sz 3700 x) ∧ ∀ x ∈ ys, Sz 3700 x
theorem ok_plus (F : FunG K "plus" "plus" s_plus f fd) (c1 : Cal false P w K mg base 6 "two_lines" (spD K (S_two_lines C)) []) (c2 : Cal false P w K mg base 5 "line_sum" (spD K (S_line_sum C)) []) : FnB false P w K mg base 7 f fd ["line", "other"] (spD K (S_two C cPlus pAdd)) := by
  refine fnD F cs_plus (fun ds r ⟨_, _, _, _, h, _⟩ => by rw [h]; rfl) (fun cdv A outer s H hr nog ds r h => ?_)
  obtain ⟨d, xs, e, ys, rfl, hx, hy, hc, rfl⟩ := h
  have l1 := Nat.le_trans (trim_le xs) hx.len
  have l2 := Nat.le_trans (trim_le ys) hy.len
  refine psd_st (ps1_two 2 3 cs_plus.nd (pd_call c1 hr (pad_cons (pd_var 0) (pad_cons (pd_var 1) pad_nil)) ⟨d, xs, e, ys, rfl, hx, hy, rfl⟩)) ?_
  exact psd_ret (pd_call c2 hr (pad_cons (pd_var 2) (pad_cons (pd_var 3) pad_nil)) ⟨_, _, rfl, by omega, by omega, fun x h => (hc.1 x (trim_mem h)).mono (by decide), fun x h => (hc.2 x (trim_mem h)).mono (by decide), rfl⟩) (congrArg (fun q => Res.own (lnD C q)) (pAdd_trim _ _))
abbrev cTimes : List Rat → List Rat → Prop := fun xs ys => Lcm60 (trim xs) ∧ Lcm60 (trim ys) ∧ degN (trim xs) + degN (trim ys) ≤ 30
theorem ok_times {t : Tok} (F : FunG K "times" "times" s_times f fd) (c1 : Cal false P w K mg base 6 "two_lines" (spD K (S_two_lines C)) []) (c2 : Cal false P w K mg base 5 "line_product" (spD K (S_line_product C)) []) (c3 : Cal false P w K mg base 1 "want_at_most" (spD K S_want_at_most) []) (c4 : Cal false P w K mg base 1 "degree_from_nought" (spD K (S_degree_from_nought C)) []) (hM : mg "MOST_LINE" = some (.int 30 t)) : FnB false P w K mg base 7 f fd ["line", "other"] (spD K (S_two C cTimes pMul)) := by
  refine fnD F cs_times (fun ds r ⟨_, _, _, _, h, _⟩ => by rw [h]; rfl) (fun cdv A outer s H hr nog ds r h => ?_)
  obtain ⟨d, xs, e, ys, rfl, hx, hy, hc, rfl⟩ := h
  have l1 := Nat.le_trans (trim_le xs) hx.len
  have l2 := Nat.le_trans (trim_le ys) hy.len
  refine psd_st (ps1_two 2 3 cs_times.nd (pd_call c1 hr (pad_cons (pd_var 0) (pad_cons (pd_var 1) pad_nil)) ⟨d, xs, e, ys, rfl, hx, hy, rfl⟩)) ?_
  refine psd_st (ps1_expr (pd_call c3 hr (pad_cons pd_str (pad_cons (pd_globI hM) (pad_cons (pd_bin (pd_call c4 hr (pad_cons (pd_var 2) pad_nil) ⟨_, rfl, rfl⟩) (pd_call c4 hr (pad_cons (pd_var 3) pad_nil) ⟨_, rfl, rfl⟩) bd_add) pad_nil))) ⟨_, _, _, rfl, hc.2.2, rfl⟩)) ?_
  exact psd_ret (pd_call c2 hr (pad_cons (pd_var 2) (pad_cons (pd_var 3) pad_nil)) ⟨_, _, rfl, by omega, by omega, hc.1, hc.2.1, rfl⟩) (congrArg (fun q => Res.own (lnD C q)) (pMul_trim _ _))
def S_scaled (C : Addr) : List D → Res → Prop := fun ds r => ∃ d xs e c, ds = [d, e] ∧ Giv C d xs ∧ Num C e c ∧ (∀ x ∈ xs, Sz 3800 x) ∧ Sz 3800 c ∧ r = .own (lnD C (pScl xs c))
theorem ok_scaled (F : FunG K "scaled" "scaled" s_scaled f fd) (c1 : Cal false P w K mg base 5 "want_line" (spD K (S_want_line C)) []) (c2 : Cal false P w K mg base 5 "want_number" (spD K (S_want C)) []) (c3 : Cal false P w K mg base 5 "line_by" (spD K (S_line_by C)) []) : FnB false P w K mg base 6 f fd ["line", "number"] (spD K (S_scaled C)) := by
  refine fnD F cs_scaled (fun ds r ⟨_, _, _, _, h, _⟩ => by rw [h]; rfl) (fun cdv A outer s H hr nog ds r h => ?_)
  obtain ⟨d, xs, e, c, rfl, hx, hn, sx, sc, rfl⟩ := h
  have l1 := Nat.le_trans (trim_le xs) hx.len
  refine psd_st (ps1_set 2 cs_scaled.nd (pd_still (pd_call c1 hr (pad_cons (pd_var 0) pad_nil) ⟨d, xs, rfl, hx, rfl⟩))) ?_
  exact psd_ret (pd_call c3 hr (pad_cons (pd_var 2) (pad_cons (pd_call c2 hr (pad_cons (pd_var 1) pad_nil) ⟨e, c, rfl, hn, rfl⟩) pad_nil)) ⟨_, c, rfl, by omega, fun x h => sx x (trim_mem h), sc, rfl⟩) (congrArg (fun q => Res.own (lnD C q)) (pScl_trim _ _))
end
end Dn
end
section
set_option Elab.async false
set_option linter.all false
set_option maxRecDepth 100000
set_option maxHeartbeats 4000000
set_option exponentiation.threshold 10000
namespace Dn
open PySem PySem.Spec L2
/-! ### the common part -/
def led (l : List Rat) : List Rat := l.map fun x => x / hd l
theorem led_len (l : List Rat) : (led l).length = l.length := List.length_map _
inductive Euc : List Rat → List Rat → List Rat → Prop
  | done {a : List Rat} (t : Tr a) (hl : a.length ≤ 100) (s : ∀ x ∈ a, Sz 3800 x) : Euc a [] (led a)
  | step {a b r : List Rat} (ta : Tr a) (tb : Tr b) (hb : b ≠ []) (la : a.length ≤ 100) (lb : b.length ≤ 100) (fam : ∃ Q, Fam Q b (a.length + 1 - b.length) ∧ ∀ x ∈ a, Q 0 x) (s : ∀ x ∈ rem a b, Sz 3800 x) (h : Euc b (led (rem a b)) r) : Euc a b r
local macro_rules | `(tactic| eq_refl) => `(tactic| first
  | ((with_reducible change BinD _ (compareOp CmpOp.NotEq) (lnD _ _) (D.lst []) _); exact b_lNil (by assumption))
  | ((with_reducible change BinD _ (binaryOp Operator.Sub) (qD _ _) (qD _ _) _); (refine' b_q (c := fun _ _ => True) (g := fun x y => x - y) (by assumption) (by assumption) ?_ ?_ trivial))
  | ((with_reducible change BinD _ (binaryOp Operator.Mult) (qD _ _) (qD _ _) _); (refine' b_q (c := fun _ _ => True) (g := fun x y => x * y) (by assumption) (by assumption) ?_ ?_ trivial))
  | ((with_reducible change PD _ (Expr.Call (Expr.Attribute _ "over" _) _ _ _) _ _ _); (refine' a_over (by assumption) (by assumption) ?_ ?_ ?_ ?_ ?_))
  | ((with_reducible change PD _ (Expr.Call (Expr.Name "Ratio" _) _ _ _) _ _ _); (refine' a_ratio1 (by assumption) (by assumption) ?_)))
section
variable {P : Program} {w : World} {K : PySem.W.Frag} {mg : Str → Option Value} {base : Heap} {f C : Addr} {fd : FuncData}
def S_line_led (C : Addr) : List D → Res → Prop := fun ds r => ∃ l : List Rat, ds = [lnD C l] ∧ Tr l ∧ l ≠ [] ∧ l.length ≤ 100 ∧ (∀ x ∈ l, Sz 3800 x) ∧ r = .own (lnD C (led l))
theorem ok_line_led (F : FunG K "line_led" "line_led" s_line_led f fd) (cv : Met P w K mg base 4 C "over" (spD K (S_op C (fun x y => y ≠ 0) fun x y => x / y)) []) : FnB false P w K mg base 5 f fd ["line"] (spD K (S_line_led C)) := by
  refine fnA F cs_line_led (fun ds r ⟨_, h, _⟩ => by rw [h]; rfl) (fun cdv A outer s H hX nog ds r h => ?_)
  obtain ⟨l, rfl, tl, ne, hl, sz, rfl⟩ := h
  have z0 : 0 < l.length := List.length_pos_iff.mpr ne
  have hne : hd l ≠ 0 := tl.resolve_left (by omega)
  have ix : atI (l.map (qD C)) (-1) = some (qD C (hd l)) := atI_ln (ixN_last z0) (by omega)
  have zh : Sz 3800 (hd l) := cf_sz sz (hn := by decide) _
  show PSD _ _ _ [.val _, .non] _
  repeat ac_rfl
  refine' a_lcC ((led l).map (qD C)) (by assumption) ?_ ?_ ?_ ?_ ?_ ?_ ?_ ?_
  repeat ac_rfl
  · intro i d y hd' hy
    rw [List.getElem?_map] at hd'
    obtain ⟨x, hx, rfl⟩ := Option.map_eq_some_iff.mp hd'
    unfold led at hy
    rw [List.map_map, List.getElem?_map, hx] at hy
    cases hy
    have zx : Sz 3800 x := sz x (List.mem_of_getElem? hx)
    dsimp only [Function.comp]
    refine' elt_one ?_ ?_ ?_
    repeat ac_rfl
    all_goals exact D.non
  repeat ac_rfl
  · rw [List.length_map, List.length_map, led_len]
theorem led_tr {l : List Rat} (t : Tr l) : Tr (led l) := by
  rcases Nat.eq_zero_or_pos l.length with z | z
  · exact .inl (by rw [led_len]; exact z)
  · refine .inr ?_
    have h : hd l ≠ 0 := t.resolve_left (by omega)
    have e : cf (led l) ((led l).length - 1) = hd l / hd l := by
      rw [led_len, cf_lt (by rw [led_len]; omega)]
      unfold led
      rw [List.getElem_map]
      unfold hd
      rw [← cf_lt (l := l) (by omega)]
    rw [e, Rat.div_def, Rat.mul_inv_cancel _ h]
    decide
theorem Euc.tr {a b r : List Rat} (h : Euc a b r) : Tr a := by cases h <;> assumption
def S_line_common (C : Addr) : List D → Res → Prop := fun ds r => ∃ a b g : List Rat, ds = [lnD C a, lnD C b] ∧ Euc a b g ∧ b.length ≤ 100 ∧ r = .own (lnD C g)
theorem ok_line_common (F : FunG K "line_common" "line_common" s_line_common f fd) (c1 : Cal false P w K mg base 5 "line_parts" (spD K (S_line_parts C)) []) (c2 : Cal false P w K mg base 5 "line_led" (spD K (S_line_led C)) []) (hln : mg "len" = none) : FnB false P w K mg base 6 f fd ["one", "other"] (spD K (S_line_common C)) := by
  refine fnA F cs_line_common (fun ds r ⟨_, _, _, h, _⟩ => by rw [h]; rfl) (fun cdv A outer s H hX nog ds r h => ?_)
  obtain ⟨a, b, g, rfl, he, hb100, rfl⟩ := h
  show PSD _ _ _ [.val _, .val _, .non] _
  repeat ac_rfl
  refine' a_while (fun k ρ' => ∃ (a b : List Rat) (s : Sl), k = b.length ∧ Euc a b g ∧ ρ' = [.val (lnD C a), .val (lnD C b), s]) b.length ?_ ?_
  rotate_left
  · rintro k ρ' ⟨a, b, s, rfl, he, rfl⟩
    refine' ⟨decide ((0 : Int) < (b.length : Int)), [.val (lnD C a), .val (lnD C b), s], ?_, ?_, ?_⟩
    · repeat ac_rfl
    · intro z
      have z : 0 < b.length := by have := of_decide_eq_true z; omega
      cases he with
      | done t => exact absurd z (by simp)
      | step ta tb hb la lb fam sz h =>
        have u1 : S_line_parts C [lnD C a, lnD C b] (.val (.tup [lnD C (quo a b), lnD C (rem a b)])) := ⟨a, b, rfl, ta, tb, z, la, lb, fam, rfl⟩
        have dv := quo_div ta tb z
        have lt := dv.lt
        by_cases e : rem a b = []
        · have e0 : led (rem a b) = [] := by rw [e]; rfl
          rw [e0] at h
          have c0 : ¬ (0 : Int) < ((rem a b).length : Int) := by rw [e]; decide
          repeat ac_rfl
          exact ⟨0, z, b, [], _, rfl, h, rfl⟩
        · have u2 : S_line_led C [lnD C (rem a b)] (.own (lnD C (led (rem a b)))) := ⟨_, rfl, dv.tr, e, by omega, sz, rfl⟩
          have c0 : (0 : Int) < ((rem a b).length : Int) := by have := List.length_pos_iff.mpr e; omega
          repeat ac_rfl
          exact ⟨(led (rem a b)).length, by rw [led_len]; exact lt, b, led (rem a b), _, rfl, h, rfl⟩
    · intro z
      have z : b = [] := List.length_eq_zero_iff.mp (by have := of_decide_eq_false z; omega)
      subst z
      cases he with
      | step ta tb hb => exact absurd rfl hb
      | done t hl sz =>
        by_cases ne : a = []
        · subst ne
          have c0 : ¬ (0 : Int) < ((([] : List Rat).length : Nat) : Int) := by decide
          repeat ac_rfl
        · have c0 : (0 : Int) < (a.length : Int) := by have := List.length_pos_iff.mpr ne; omega
          have u2 : S_line_led C [lnD C a] (.own (lnD C (led a))) := ⟨_, rfl, t, ne, by omega, sz, rfl⟩
          repeat ac_rfl
  · exact ⟨a, b, .non, rfl, he, rfl⟩
end
end Dn
end
section
set_option Elab.async false
set_option linter.all false
set_option maxRecDepth 100000
set_option maxHeartbeats 2000000
set_option exponentiation.threshold 10000
namespace Dn
open PySem PySem.Spec L2
/-! ### the pot: numbers drawn from the script -/
structure Pot where
  a : Int
  b : Int
@[reducible] def potD (p : Pot) : D := .lst [.int p.a, .int p.b]
def Pot.Ok (p : Pot) : Prop := 0 ≤ p.b ∧ p.b < 4294967296
def draw (p : Pot) (m : Int) : Int × Pot :=
  if 0 < p.a then (p.a % m, ⟨p.a / m, p.b⟩)
  else (((p.b * 39373 + 7333) % 2147483587 * ((p.b * 39373 + 7333) % 2147483587) % 2147483563 / 19) % m, ⟨p.a, (p.b * 39373 + 7333) % 2147483587⟩)
theorem draw_ok {p : Pot} {m : Int} (h : p.Ok) (hm : 0 < m) : 0 ≤ (draw p m).1 ∧ (draw p m).1 < m ∧ (draw p m).2.Ok := by
  unfold draw
  split
  · exact ⟨Int.emod_nonneg _ (by omega), Int.emod_lt_of_pos _ hm, h⟩
  · refine ⟨Int.emod_nonneg _ (by omega), Int.emod_lt_of_pos _ hm, Int.emod_nonneg _ (by omega), ?_⟩
    have := Int.emod_lt_of_pos (p.b * 39373 + 7333) (by omega : (0 : Int) < 2147483587)
    show (p.b * 39373 + 7333) % 2147483587 < 4294967296
    omega
def T_draw : D → List D → Res → D → Prop := fun c ds r c' => ∃ (p : Pot) (m : Int), c = potD p ∧ ds = [.int m] ∧ p.Ok ∧ 0 < m ∧ m < 1073741824 ∧ r = .val (.int (draw p m).1) ∧ c' = potD (draw p m).2
section
variable {P : Program} {w : World} {K : PySem.W.Frag} {mg : Str → Option Value} {base : Heap} {f C : Addr} {fd : FuncData}
theorem ok_law_draw {gd : Bool} (F : FunG K "_law_draw" "_law_draw" s_law_draw f fd) (B : Bi mg) (hdm : mg "divmod" = none) : FnB gd P w K mg base 1 f fd ["_law_pot_here", "_law_many"] (spIO K T_draw) := by
  refine fnIO F cs_law_draw (fun c ds r c' ⟨_, _, _, h, _⟩ => by rw [h]; rfl) (fun cdv A outer s H hr nog c ds r c' h => ?_)
  obtain ⟨p, m, rfl, rfl, ok, hm, hm2, rfl, rfl⟩ := h
  have nd := cs_law_draw.nd
  have bb : Bd 32 p.b := by have := ok.1; have := ok.2; unfold Bd; omega
  by_cases h : 0 < p.a
  · refine psd_ifT (ptd_eq (ptd_cmp (pd_ixO 0 pd_int (h := rfl)) pd_int bd_gt rfl) (decide_eq_true h)) ?_
    refine psd_st (ps1_asg (pd_callB (cd_divmod ⟨hm, hm2⟩) hdm (pad_cons (pd_ixO 0 pd_int (h := rfl)) (pad_cons (pd_var 1) pad_nil))) (pgd_tup rfl (pgd_cons (pgd_subC 0) (pgd_cons (pgd_name 2 nd) pgd_nil))) ⟨_, .inl rfl, rfl, _, _, _, rfl, ⟨_, _, rfl, rfl, rfl⟩, _, _, _, rfl, rfl, rfl, rfl⟩) ?_
    refine psd_ret (pd_var 2) ⟨?_, ?_⟩
    · unfold draw; rw [if_pos h]
    · unfold draw; rw [if_pos h]; rfl
  · have b2 : Bd 31 ((p.b * 39373 + 7333) % 2147483587) := by
      have := Int.emod_lt_of_pos (p.b * 39373 + 7333) (by omega : (0 : Int) < 2147483587)
      have := Int.emod_nonneg (p.b * 39373 + 7333) (by omega : (2147483587 : Int) ≠ 0)
      unfold Bd
      omega
    refine psd_skip (ptd_eq (ptd_cmp (pd_ixO 0 pd_int (h := rfl)) pd_int bd_gt rfl) (decide_eq_false h)) ?_
    refine psd_st (ps1_sub 0 (pd_bin (pd_callTy cd_int B.int (pad_cons (pd_bin (pd_bin (pd_ixO 0 pd_int (h := rfl)) pd_int (bd_mul (bb.cmul (n := 20) (by unfold Bd; decide)))) pd_int bd_add) pad_nil)) pd_int (bd_mod (by decide))) pd_int (hj := rfl)) ?_
    refine psd_ret (pd_bin (pd_callTy cd_int B.int (pad_cons (pd_bin (pd_bin (pd_callTy cd_int B.int (pad_cons (pd_bin (pd_ixO 0 pd_int (h := rfl)) (pd_ixO 0 pd_int (h := rfl)) (bd_mul (b2.cmul b2))) pad_nil)) pd_int (bd_mod (by decide))) pd_int (bd_div (by decide))) pad_nil)) (pd_var 1) (bd_mod hm)) ⟨?_, ?_⟩
    · unfold draw; rw [if_neg h]
    · unfold draw; rw [if_neg h]; rfl
def cell (ns : List Int) (k : Nat) : Int := match ns[k]? with
  | some z => if z < 0 then -z else z
  | none => 137 * (k : Int) + 101
def potOf (ns : List Int) (k : Nat) : Pot := ⟨if cell ns k - 10 ^ 18 > 0 then cell ns k - 10 ^ 18 else 0, (cell ns k % 2147483549 * 48271 + 7333 * (k : Int) + 31) % 2147483563 + 1⟩
theorem potOf_ok (ns : List Int) (k : Nat) : (potOf ns k).Ok := by
  have := Int.emod_lt_of_pos (cell ns k % 2147483549 * 48271 + 7333 * (k : Int) + 31) (by omega : (0 : Int) < 2147483563)
  have := Int.emod_nonneg (cell ns k % 2147483549 * 48271 + 7333 * (k : Int) + 31) (by omega : (2147483563 : Int) ≠ 0)
  refine ⟨?_, ?_⟩
  · show 0 ≤ (cell ns k % 2147483549 * 48271 + 7333 * (k : Int) + 31) % 2147483563 + 1
    omega
  · show (cell ns k % 2147483549 * 48271 + 7333 * (k : Int) + 31) % 2147483563 + 1 < 4294967296
    omega
def S_pot : List D → Res → Prop := fun ds r => ∃ (ns : List Int) (k : Nat), ds = [.lstK (ns.map D.int), .int (k : Int)] ∧ k < 64 ∧ r = .own (potD (potOf ns k))
theorem ok_law_pot {gd : Bool} (F : FunG K "_law_pot" "_law_pot" s_law_pot f fd) (B : Bi mg) (hl : mg "len" = none) (hx : mg "max" = none) : FnB gd P w K mg base 1 f fd ["_law_script", "_law_k"] (spD K S_pot) := by
  refine fnD F cs_law_pot (fun ds r ⟨_, _, h, _⟩ => by rw [h]; rfl) (fun cdv A outer s H hr nog ds r h => ?_)
  obtain ⟨ns, k, rfl, hk, rfl⟩ := h
  have nd := cs_law_pot.nd
  have kb : Bd 6 (k : Int) := by unfold Bd; omega
  have hL : lenD (.lstK (ns.map D.int)) = some ns.length := by
    show some _ = some _
    rw [List.length_map]
  refine psd_cons (fun ρ' => ρ' = [.val (.lstK (ns.map D.int)), .val (.int (k : Int)), .val (.int (cell ns k))]) ?_ fun ρ' e => ?_
  · by_cases h : k < ns.length
    · have e1 : ns[k]? = some ns[k] := List.getElem?_eq_getElem h
      refine ps1_set 2 nd (pd_ifT (ptd_eq (ptd_cmp (pd_var 1) (pd_callB (cd_len hL) hl (pad_cons (pd_var 0) pad_nil)) bd_lt rfl) (decide_eq_true (by omega))) (pd_callB cd_abs B.abs (pad_cons (pd_ixLK (pd_var 0) (pd_var 1) (atI_nat (by rw [List.getElem?_map, e1]; rfl))) pad_nil))) ?_
      show _ = _
      unfold cell
      rw [e1]
      rfl
    · have e1 : ns[k]? = none := List.getElem?_eq_none (by omega)
      refine ps1_set 2 nd (pd_ifF (ptd_eq (ptd_cmp (pd_var 1) (pd_callB (cd_len hL) hl (pad_cons (pd_var 0) pad_nil)) bd_lt rfl) (decide_eq_false (by omega))) (pd_bin (pd_bin pd_int (pd_var 1) (bd_mul (Bd.cmul (m := 14) (by unfold Bd; decide) kb))) pd_int bd_add)) ?_
      show _ = _
      unfold cell
      rw [e1]
      rfl
  subst e
  have cb : Bd 31 (cell ns k % 2147483549) := by
    have := Int.emod_lt_of_pos (cell ns k) (by omega : (0 : Int) < 2147483549)
    have := Int.emod_nonneg (cell ns k) (by omega : (2147483549 : Int) ≠ 0)
    unfold Bd
    omega
  refine psd_ret (pd_lst (pad_cons (pd_callB cd_max hx (pad_cons pd_int (pad_cons (pd_bin (pd_var 2) (pd_bin pd_int pd_int (bd_pow ⟨by decide, by decide, by decide⟩)) bd_sub) pad_nil))) (pad_cons (pd_bin (pd_bin (pd_callTy cd_int B.int (pad_cons (pd_bin (pd_bin (pd_bin (pd_bin (pd_callTy cd_int B.int (pad_cons (pd_var 2) pad_nil)) pd_int (bd_mod (by decide))) pd_int (bd_mul (cb.cmul (n := 20) (by unfold Bd; decide)))) (pd_bin pd_int (pd_var 1) (bd_mul (Bd.cmul (m := 20) (by unfold Bd; decide) kb))) bd_add) pd_int bd_add) pad_nil)) pd_int (bd_mod (by decide))) pd_int bd_add) pad_nil))) ?_
  rfl
def S_low : List D → Res → Prop := fun ds r => ∃ t b : Int, ds = [.int t, .int b] ∧ b ≠ 0 ∧ Bd 8000 b ∧ r = .val (qP (Rat.divInt t b))
theorem abs_nat (t : Int) : (if t < 0 then -t else t) = (t.natAbs : Int) := by split <;> omega
theorem ok_law_low {gd : Bool} (F : FunG K "_law_low" "_law_low" s_law_low f fd) (B : Bi mg) : FnB gd P w K mg base 1 f fd ["_law_top", "_law_bottom"] (spD K S_low) := by
  refine fnD F cs_law_low (fun ds r ⟨_, _, h, _⟩ => by rw [h]; rfl) (fun cdv A outer s H hr nog ds r h => ?_)
  obtain ⟨t, b, rfl, hb, hz, rfl⟩ := h
  have nd := cs_law_low.nd
  obtain ⟨e1, e2⟩ := low_both t b hb
  have cd := fun i => (sgcd_bd (t := t) hb hz).cdiv i (sgcd_ne hb)
  refine psd_cons (fun ρ' => ρ' = [.val (.int t), .val (.int b), .val (.int t.natAbs), .val (.int b.natAbs)]) (ps1_par 2 3 (pad_cons (pd_callB cd_abs B.abs (pad_cons (pd_var 0) pad_nil)) (pad_cons (pd_callB cd_abs B.abs (pad_cons (pd_var 1) pad_nil)) pad_nil)) nd ?_) fun ρ' e => ?_
  · show _ = _
    rw [abs_nat, abs_nat]
    rfl
  subst e
  refine psd_while (fun k ρ' => ∃ u v : Nat, ρ' = [.val (.int t), .val (.int b), .val (.int u), .val (.int v)] ∧ k = v ∧ Nat.gcd u v = Nat.gcd t.natAbs b.natAbs) b.natAbs PassesOwn.never ⟨_, _, rfl, rfl, rfl⟩ ?_
  rintro v ρ' ⟨u, _, rfl, rfl, hg⟩
  refine ⟨_, _, ptd_cmp (pd_var 3) pd_int bd_gt rfl, fun h => ?_, fun h => ?_⟩
  · have h : (0 : Int) < (v : Int) := of_decide_eq_true h
    refine psd_st (ps1_par 2 3 (pad_cons (pd_var 3) (pad_cons (pd_bin (pd_callTy cd_int B.int (pad_cons (pd_var 2) pad_nil)) (pd_var 3) (bd_mod h)) pad_nil)) nd) (psd_nil ⟨u % v, Nat.mod_lt _ (by omega), v, u % v, ?_, rfl, ?_⟩)
    · rfl
    · rw [← hg, Nat.gcd_comm v, ← Nat.gcd_rec, Nat.gcd_comm]
  · have h : ¬ (0 : Int) < (v : Int) := of_decide_eq_false h
    obtain rfl : v = 0 := by omega
    rw [Nat.gcd_zero_right] at hg
    subst hg
    by_cases n : 0 < b
    · have hs : sgcd t b = ((Nat.gcd t.natAbs b.natAbs : Nat) : Int) := if_neg (by omega)
      rw [hs] at cd e1 e2
      refine psd_st (ps1_set 2 nd (pd_ifT (ptd_eq (ptd_cmp (pd_var 1) pd_int bd_gt rfl) (decide_eq_true n)) (pd_var 2))) ?_
      refine psd_ret (pd_tup (pad_cons (pd_bin (pd_var 0) (pd_var 2) (bd_divA (cd _))) (pad_cons (pd_bin (pd_var 1) (pd_var 2) (bd_divA (cd _))) pad_nil))) ?_
      rw [qP, ← e1, ← e2]
      rfl
    · have hs : sgcd t b = 0 - ((Nat.gcd t.natAbs b.natAbs : Nat) : Int) := if_pos (by omega)
      rw [hs] at cd e1 e2
      refine psd_st (ps1_set 2 nd (pd_ifF (ptd_eq (ptd_cmp (pd_var 1) pd_int bd_gt rfl) (decide_eq_false n)) (pd_bin pd_int (pd_var 2) bd_sub))) ?_
      refine psd_ret (pd_tup (pad_cons (pd_bin (pd_var 0) (pd_var 2) (bd_divA (cd _))) (pad_cons (pd_bin (pd_var 1) (pd_var 2) (bd_divA (cd _))) pad_nil))) ?_
      rw [qP, ← e1, ← e2]
      rfl
end
end Dn
end
section
set_option Elab.async false
set_option linter.all false
set_option maxRecDepth 100000
set_option maxHeartbeats 2000000
set_option exponentiation.threshold 10000
namespace Dn
open PySem PySem.Spec L2
/-! ### sizes by sixths: z / 6 ^ k, z below 2 ^ m -/
theorem qb_lcm {k m : Nat} {l : List Rat} (h : ∀ x ∈ l, Qb k m x) : ∀ i, lcmF (l.take i) ∣ 6 ^ k := fun i => by
  have all : ∀ (l : List Rat) (b : Nat), b ∣ 6 ^ k → (∀ x ∈ l, x.den ∣ 6 ^ k) → l.foldl (fun b x => Nat.lcm b x.den) b ∣ 6 ^ k := by
    intro l
    induction l with
    | nil => exact fun b hb _ => hb
    | cons x l ih => exact fun b hb hx => ih _ (Nat.lcm_dvd hb (hx x (List.mem_cons_self ..))) fun y hy => hx y (List.mem_cons_of_mem _ hy)
  exact all _ 1 (Nat.one_dvd _) fun x hx => (h x (List.mem_of_mem_take hx)).den
theorem Qb.lcm60 {k m : Nat} {l : List Rat} (h : ∀ x ∈ l, Qb k m x) (hk : k ≤ 23) (hm : m ≤ 2000) : Lcm60 l := by
  have h3 : (6 : Nat) ^ 23 < 2 ^ 60 := by decide
  refine ⟨fun i => ?_, fun x hx => ⟨(h x hx).sz hm (by omega), ?_⟩⟩
  rotate_left
  · have h1 := Nat.le_of_dvd (Nat.pow_pos (by decide)) (h x hx).den
    have h2 : 6 ^ k ≤ 6 ^ 23 := Nat.pow_le_pow_right (by decide) (by omega)
    unfold Bd
    omega
  have h1 := Nat.le_of_dvd (Nat.pow_pos (by decide)) (qb_lcm h i)
  have h2 : 6 ^ k ≤ 6 ^ 23 := Nat.pow_le_pow_right (by decide) (by omega)
  omega
end Dn
end
section
set_option Elab.async false
set_option linter.all false
set_option maxRecDepth 100000
set_option maxHeartbeats 2000000
set_option exponentiation.threshold 10000
namespace Dn
open PySem PySem.Spec L2
@[reducible] def lpD (l : List Rat) : D := .lst (l.map qP)
theorem lp_get {l : List Rat} {i : Nat} (h : i < l.length) : (l.map qP)[i]? = some (qP (cf l i)) := by
  rw [List.getElem?_map, List.getElem?_eq_getElem h, cf_lt h]
  rfl
theorem lp_len {l : List Rat} : lenD (lpD l) = some l.length := by
  show some _ = some _
  rw [List.length_map]
section
variable {P : Program} {w : World} {K : PySem.W.Frag} {mg : Str → Option Value} {base : Heap} {f C : Addr} {fd : FuncData} {gd : Bool}
def T_pick : D → List D → Res → D → Prop := fun c ds r c' => ∃ (p : Pot) (xs : List D) (d : D), c = potD p ∧ ds = [.lst xs] ∧ p.Ok ∧ 0 < xs.length ∧ xs.length < 1000 ∧ xs[(draw p xs.length).1.toNat]? = some d ∧ r = .val d ∧ c' = potD (draw p xs.length).2
theorem ok_law_pick (F : FunG K "_law_pick" "_law_pick" s_law_pick f fd) (c1 : Cal false P w K mg base 1 "_law_draw" (spIO K T_draw) []) (hl : mg "len" = none) : FnB gd P w K mg base 2 f fd ["_law_pot_here", "_law_some"] (spIO K T_pick) := by
  refine fnIO F cs_law_pick (fun c ds r c' ⟨_, _, _, _, h, _⟩ => by rw [h]; rfl) (fun cdv A outer s H hr nog c ds r c' h => ?_)
  obtain ⟨p, xs, d, rfl, rfl, ok, h0, h1, hd, rfl, rfl⟩ := h
  have o := draw_ok (m := (xs.length : Int)) ok (by omega)
  have e : (draw p xs.length).1 = (((draw p xs.length).1.toNat : Nat) : Int) := by omega
  refine psd_ret (pd_ixL (pd_var 1) (pd_callIO 0 c1 hr rfl (pad_cons (pd_callB (cd_len (n := xs.length) rfl) hl (pad_cons (pd_var 1) pad_nil)) pad_nil) rfl ⟨p, _, rfl, rfl, ok, by omega, by omega, rfl, rfl⟩) (by rw [e]; exact atI_nat hd)) ⟨rfl, rfl⟩
def S_law_sum : List D → Res → Prop := fun ds r => ∃ (x y : Rat) (m n : Nat), ds = [qP x, qP y] ∧ Sz m x ∧ Sz n y ∧ m + n ≤ 8000 ∧ r = .val (qP (x + y))
theorem ok_law_sum (F : FunG K "_law_sum" "_law_sum" s_law_sum f fd) (c1 : Cal true P w K mg base 1 "_law_low" (spD K S_low) []) : FnB true P w K mg base 2 f fd ["_law_one", "_law_other"] (spD K S_law_sum) := by
  refine fnD F cs_law_sum (fun ds r ⟨_, _, _, _, h, _⟩ => by rw [h]; rfl) (fun cdv A outer s H hr nog ds r h => ?_)
  obtain ⟨x, y, m, n, rfl, hx, hy, hz, rfl⟩ := h
  refine psd_ret (pd_call c1 hr (pad_cons (pd_bin (pd_bin (pd_ixT (pd_var 0) pd_int rfl) (pd_ixT (pd_var 1) pd_int rfl) (bd_mul (hx.1.cmul hy.2 (by omega)))) (pd_bin (pd_ixT (pd_var 1) pd_int rfl) (pd_ixT (pd_var 0) pd_int rfl) (bd_mul (hy.1.cmul hx.2 (by omega)))) bd_add) (pad_cons (pd_bin (pd_ixT (pd_var 0) pd_int rfl) (pd_ixT (pd_var 1) pd_int rfl) (bd_mul (hx.2.cmul hy.2 (by omega)))) pad_nil)) ⟨_, _, rfl, mul_ne (den_ne x) (den_ne y), (hx.2.mul hy.2).mono hz, rfl⟩) (congrArg (fun q => Res.val (qP q)) (of_add x y))
def S_law_by : List D → Res → Prop := fun ds r => ∃ (x y : Rat) (m n : Nat), ds = [qP x, qP y] ∧ Sz m x ∧ Sz n y ∧ m + n ≤ 8000 ∧ r = .val (qP (x * y))
theorem ok_law_by (F : FunG K "_law_by" "_law_by" s_law_by f fd) (c1 : Cal true P w K mg base 1 "_law_low" (spD K S_low) []) : FnB true P w K mg base 2 f fd ["_law_one", "_law_other"] (spD K S_law_by) := by
  refine fnD F cs_law_by (fun ds r ⟨_, _, _, _, h, _⟩ => by rw [h]; rfl) (fun cdv A outer s H hr nog ds r h => ?_)
  obtain ⟨x, y, m, n, rfl, hx, hy, hz, rfl⟩ := h
  refine psd_ret (pd_call c1 hr (pad_cons (pd_bin (pd_ixT (pd_var 0) pd_int rfl) (pd_ixT (pd_var 1) pd_int rfl) (bd_mul (hx.1.cmul hy.1 (by omega)))) (pad_cons (pd_bin (pd_ixT (pd_var 0) pd_int rfl) (pd_ixT (pd_var 1) pd_int rfl) (bd_mul (hx.2.cmul hy.2 (by omega)))) pad_nil)) ⟨_, _, rfl, mul_ne (den_ne x) (den_ne y), (hx.2.mul hy.2).mono hz, rfl⟩) (congrArg (fun q => Res.val (qP q)) (of_mul x y))
/-- a number drawn: -m .. m, over 1, 2 or 3 -/
def botOf (k : Int) : Int := if k < 3 then 1 else if k = 3 then 2 else 3
def numQ (p : Pot) (m : Int) : Rat := Rat.divInt ((draw p (2 * m + 1)).1 - m) (botOf (draw (draw p (2 * m + 1)).2 5).1)
def numPot (p : Pot) (m : Int) : Pot := (draw (draw p (2 * m + 1)).2 5).2
theorem botOf_ok (k : Int) : botOf k = 1 ∨ botOf k = 2 ∨ botOf k = 3 := by
  unfold botOf
  split
  · exact .inl rfl
  · split
    · exact .inr (.inl rfl)
    · exact .inr (.inr rfl)
theorem numPot_ok {p : Pot} {m : Int} (ok : p.Ok) (hm : 0 ≤ m) : (numPot p m).Ok := (draw_ok (draw_ok ok (by omega)).2.2 (by decide)).2.2
def T_number : D → List D → Res → D → Prop := fun c ds r c' => ∃ (p : Pot) (m : Int), c = potD p ∧ ds = [.int m] ∧ p.Ok ∧ 0 ≤ m ∧ m ≤ 100 ∧ r = .val (qP (numQ p m)) ∧ c' = potD (numPot p m)
theorem ok_law_number (F : FunG K "_law_number" "_law_number" s_law_number f fd) (c1 : Cal false P w K mg base 1 "_law_draw" (spIO K T_draw) []) (c2 : Cal false P w K mg base 2 "_law_pick" (spIO K T_pick) []) (c3 : Cal true P w K mg base 1 "_law_low" (spD K S_low) []) : FnB true P w K mg base 3 f fd ["_law_pot_here", "_law_most"] (spIO K T_number) := by
  refine fnIO F cs_law_number (fun c ds r c' ⟨_, _, _, h, _⟩ => by rw [h]; rfl) (fun cdv A outer s H hr nog c ds r c' h => ?_)
  obtain ⟨p, m, rfl, rfl, ok, h0, hm, rfl, rfl⟩ := h
  have bm : Bd 7 m := by unfold Bd; omega
  have o := draw_ok (m := 2 * m + 1) ok (by omega)
  have o2 := draw_ok (m := 5) o.2.2 (by decide)
  have pk5 : ([D.int 1, .int 1, .int 1, .int 2, .int 3])[(draw (draw p (2 * m + 1)).2 5).1.toNat]? = some (.int (botOf (draw (draw p (2 * m + 1)).2 5).1)) := by
    generalize (draw (draw p (2 * m + 1)).2 5).1 = k at *
    have : k = 0 ∨ k = 1 ∨ k = 2 ∨ k = 3 ∨ k = 4 := by omega
    rcases this with rfl | rfl | rfl | rfl | rfl <;> rfl
  have nb : botOf (draw (draw p (2 * m + 1)).2 5).1 ≠ 0 ∧ Bd 8000 (botOf (draw (draw p (2 * m + 1)).2 5).1) := by
    rcases botOf_ok (draw (draw p (2 * m + 1)).2 5).1 with e | e | e <;> rw [e] <;> exact ⟨by decide, Bd.mono (m := 4) (by unfold Bd; decide) (by decide)⟩
  exact psd_ret (pd_call c3 hr (pad_cons (pd_bin (pd_callIO 0 c1 hr rfl (pad_cons (pd_bin (pd_bin pd_int (pd_var 1) (bd_mul (Bd.cmul (m := 2) (by unfold Bd; decide) bm))) pd_int bd_add) pad_nil) rfl ⟨p, _, rfl, rfl, ok, by omega, by omega, rfl, rfl⟩) (pd_var 1) bd_sub) (pad_cons (pd_callIO 0 c2 hr rfl (pad_cons (pd_still (pd_lst (pad_cons pd_int (pad_cons pd_int (pad_cons pd_int (pad_cons pd_int (pad_cons pd_int pad_nil))))))) pad_nil) rfl ⟨_, [.int 1, .int 1, .int 1, .int 2, .int 3], _, rfl, rfl, o.2.2, by decide, by decide, pk5, rfl, rfl⟩) pad_nil)) ⟨_, _, rfl, nb.1, nb.2, rfl⟩ (nog := nog)) ⟨rfl, rfl⟩
def S_law_ratio (C : Addr) : List D → Res → Prop := fun ds r => ∃ x : Rat, ds = [qP x] ∧ Sz 8000 x ∧ r = .own (qD C x)
theorem ok_law_ratio (F : FunG K "_law_ratio" "_law_ratio" s_law_ratio f fd) (mk : Mak P w K mg base 2 "Ratio" C (spIO K (T_init C)) []) : FnB gd P w K mg base 4 f fd ["_law_pair"] (spD K (S_law_ratio C)) := by
  refine fnD F cs_law_ratio (fun ds r ⟨_, h, _⟩ => by rw [h]; rfl) (fun cdv A outer s H hr nog ds r h => ?_)
  obtain ⟨x, rfl, hx, rfl⟩ := h
  exact psd_ret (pd_make mk hr (pad_cons (pd_ixT (pd_var 0) pd_int rfl) (pad_cons (pd_ixT (pd_var 0) pd_int rfl) pad_nil)) ⟨_, _, rfl, rfl, den_ne x, hx.2, rfl, rfl⟩) (congrArg (fun q => Res.own (qD C q)) (Rat.num_divInt_den x))
/-- a pair handed on: as an int where it is whole and the pot says so -/
def passB (p : Pot) (x : Rat) : Bool := decide ((x.den : Int) = 1) && decide ((draw p 2).1 = 0)
def passD (C : Addr) (p : Pot) (x : Rat) : D := if passB p x then .int x.num else qD C x
def passP (p : Pot) (x : Rat) : Pot := if (x.den : Int) = 1 then (draw p 2).2 else p
theorem passP_ok {p : Pot} (ok : p.Ok) (x : Rat) : (passP p x).Ok := by
  unfold passP
  split
  · exact (draw_ok ok (by decide)).2.2
  · exact ok
theorem pass_num (p : Pot) (x : Rat) : Num C (passD C p x) x := by
  unfold passD
  split
  · rename_i h
    unfold passB at h
    rw [Bool.and_eq_true] at h
    have e : x = (x.num : Rat) := by
      have d : (x.den : Int) = 1 := of_decide_eq_true h.1
      have q := Rat.num_divInt_den x
      rw [d, of_int] at q
      exact q.symm
    have z : Num C (.int x.num) ((x.num : Int) : Rat) := .i x.num
    rw [← e] at z
    exact z
  · exact .q x
def T_passed (C : Addr) : D → List D → Res → D → Prop := fun c ds r c' => ∃ (p : Pot) (x : Rat), c = potD p ∧ ds = [qP x] ∧ p.Ok ∧ Sz 8000 x ∧ r = .val (passD C p x) ∧ c' = potD (passP p x)
theorem ok_law_passed (F : FunG K "_law_passed" "_law_passed" s_law_passed f fd) (c1 : Cal false P w K mg base 1 "_law_draw" (spIO K T_draw) []) (c2 : Cal false P w K mg base 4 "_law_ratio" (spD K (S_law_ratio C)) []) : FnB gd P w K mg base 5 f fd ["_law_pot_here", "_law_pair"] (spIO K (T_passed C)) := by
  refine fnIO F cs_law_passed (fun c ds r c' ⟨_, _, _, h, _⟩ => by rw [h]; rfl) (fun cdv A outer s H hr nog c ds r c' h => ?_)
  obtain ⟨p, x, rfl, rfl, ok, hx, rfl, rfl⟩ := h
  unfold passD passP passB
  by_cases h1 : (x.den : Int) = 1
  · rw [decide_eq_true h1, Bool.true_and, if_pos h1]
    by_cases h2 : (draw p 2).1 = 0
    · rw [decide_eq_true h2, if_pos rfl]
      exact psd_ret (pd_ifT (pwd_andT (ptd_eq (ptd_cmp (pd_ixT (pd_var 1) pd_int rfl) pd_int bd_eqI rfl) (decide_eq_true h1)) (pwd_and1 (ptd_eq (ptd_cmp (pd_callIO 0 c1 hr rfl (pad_cons pd_int pad_nil) rfl ⟨p, 2, rfl, rfl, ok, by decide, by decide, rfl, rfl⟩) pd_int bd_eqI rfl) (decide_eq_true h2)))).pt (pd_ixT (pd_var 1) pd_int rfl)) ⟨rfl, rfl⟩
    · rw [decide_eq_false h2, if_neg (by decide)]
      exact psd_ret (pd_ifF (pwd_andT (ptd_eq (ptd_cmp (pd_ixT (pd_var 1) pd_int rfl) pd_int bd_eqI rfl) (decide_eq_true h1)) (pwd_and1 (ptd_eq (ptd_cmp (pd_callIO 0 c1 hr rfl (pad_cons pd_int pad_nil) rfl ⟨p, 2, rfl, rfl, ok, by decide, by decide, rfl, rfl⟩) pd_int bd_eqI rfl) (decide_eq_false h2)))).pt (pd_still (pd_call c2 hr (pad_cons (pd_var 1) pad_nil) ⟨x, rfl, hx, rfl⟩))) ⟨rfl, rfl⟩
  · rw [decide_eq_false h1, Bool.false_and, if_neg (by decide), if_neg h1]
    exact psd_ret (pd_ifF (pwd_andF (ptd_eq (ptd_cmp (pd_ixT (pd_var 1) pd_int rfl) pd_int bd_eqI rfl) (decide_eq_false h1))).pt (pd_still (pd_call c2 hr (pad_cons (pd_var 1) pad_nil) ⟨x, rfl, hx, rfl⟩))) ⟨rfl, rfl⟩
end
end Dn
end
section
set_option Elab.async false
set_option linter.all false
set_option maxRecDepth 100000
set_option maxHeartbeats 2000000
set_option exponentiation.threshold 10000
namespace Dn
open PySem PySem.Spec L2
theorem pd_castR {X : Cx} {e : Expr} {ρ ρ1 ρ2 : Rho} {r : Res} (h : PD X e ρ r ρ1) (q : ρ1 = ρ2) : PD X e ρ r ρ2 := q ▸ h
def numsP (p : Pot) : Nat → Pot
  | 0 => p
  | i + 1 => numPot (numsP p i) 6
theorem numsP_ok {p : Pot} (ok : p.Ok) : ∀ i, (numsP p i).Ok
  | 0 => ok
  | i + 1 => numPot_ok (numsP_ok ok i) (by decide)
def numsL (p : Pot) (n : Nat) : List Rat := (List.range n).map fun i => numQ (numsP p i) 6
def lineN (p : Pot) (m : Int) : Nat := (draw p (m + 2)).1.toNat
def lineL (p : Pot) (m : Int) : List Rat := trim (numsL (draw p (m + 2)).2 (lineN p m))
def lineP (p : Pot) (m : Int) : Pot := numsP (draw p (m + 2)).2 (lineN p m)
theorem numsL_len (p : Pot) (n : Nat) : (numsL p n).length = n := by unfold numsL; rw [List.length_map, List.length_range]
theorem lineP_ok {p : Pot} {m : Int} (ok : p.Ok) (h : 0 ≤ m) : (lineP p m).Ok := numsP_ok (draw_ok ok (by omega)).2.2 _
theorem lineL_tr (p : Pot) (m : Int) : Tr (lineL p m) := trim_tr _
theorem lineL_len {p : Pot} {m : Int} (ok : p.Ok) (h : 0 ≤ m) : ((lineL p m).length : Int) ≤ m + 1 := by
  have o := draw_ok (m := m + 2) ok (by omega)
  have q := trim_le (numsL (draw p (m + 2)).2 (lineN p m))
  rw [numsL_len] at q
  unfold lineN at q
  unfold lineL lineN
  omega
/-- what is handed on of a line -/
def pasP (p : Pot) (l : List Rat) : Nat → Pot
  | 0 => p
  | i + 1 => passP (pasP p l i) (cf l i)
theorem pasP_ok {p : Pot} (ok : p.Ok) (l : List Rat) : ∀ i, (pasP p l i).Ok
  | 0 => ok
  | i + 1 => passP_ok (pasP_ok ok l i) _
def pasL (C : Addr) (p : Pot) (l : List Rat) : List D := (List.range l.length).map fun i => passD C (pasP p l i) (cf l i)
def zerN (k : Int) : Int := if k < 2 then 0 else k - 1
def zerI (p : Pot) (l : List Rat) : Int := if (l.length : Int) < 29 then zerN (draw (pasP p l l.length) 4).1 else 0
def zerP (p : Pot) (l : List Rat) : Pot := if (l.length : Int) < 29 then (draw (pasP p l l.length) 4).2 else pasP p l l.length
def givL (C : Addr) (p : Pot) (l : List Rat) : List D := pasL C p l ++ (List.replicate (zerI p l).toNat [D.int 0]).flatten
def givD (C : Addr) (p : Pot) (l : List Rat) : D := if (draw (zerP p l) 4).1 = 0 then .tup (givL C p l) else .lst (givL C p l)
def givP (p : Pot) (l : List Rat) : Pot := (draw (zerP p l) 4).2
theorem zerP_ok {p : Pot} (ok : p.Ok) (l : List Rat) : (zerP p l).Ok := by
  unfold zerP
  split
  · exact (draw_ok (pasP_ok ok l _) (by decide)).2.2
  · exact pasP_ok ok l _
theorem givP_ok {p : Pot} (ok : p.Ok) (l : List Rat) : (givP p l).Ok := (draw_ok (zerP_ok ok l) (by decide)).2.2
theorem zerI_le {p : Pot} (ok : p.Ok) (l : List Rat) : 0 ≤ zerI p l ∧ zerI p l ≤ 2 ∧ (29 ≤ (l.length : Int) → zerI p l = 0) := by
  have o := draw_ok (m := 4) (pasP_ok ok l l.length) (by decide)
  unfold zerI zerN
  split
  · split <;> omega
  · omega
theorem nums_append {C : Addr} : ∀ {ds es : List D} {xs ys : List Rat}, Nums C ds xs → Nums C es ys → Nums C (ds ++ es) (xs ++ ys)
  | _, _, _, _, .nil, h => h
  | _, _, _, _, .cons a b, h => .cons a (nums_append b h)
theorem nums_zero {C : Addr} : ∀ n : Nat, Nums C (List.replicate n [D.int 0]).flatten (List.replicate n 0)
  | 0 => .nil
  | n + 1 => by
    rw [List.replicate_succ, List.replicate_succ, List.flatten_cons]
    have z : Num C (.int 0) ((0 : Int) : Rat) := .i 0
    exact .cons z (nums_zero n)
theorem nums_map {C : Addr} (g : Nat → D) (f : Cf) (h : ∀ i, Num C (g i) (f i)) : ∀ (is : List Nat), Nums C (is.map g) (is.map f)
  | [] => .nil
  | i :: is => .cons (h i) (nums_map g f h is)
theorem pas_nums {C : Addr} (p : Pot) (l : List Rat) : Nums C (pasL C p l) l := by
  have e : l = (List.range l.length).map (cf l) := by
    refine List.ext_getElem (by simp) fun i h1 h2 => ?_
    rw [List.getElem_map, List.getElem_range, cf_lt h1]
  have z := nums_map (C := C) (fun i => passD C (pasP p l i) (cf l i)) (cf l) (fun i => pass_num _ _) (List.range l.length)
  rw [← e] at z
  exact z
/-- d is given for the line l: maybe with noughts behind -/
def Gv (C : Addr) (d : D) (l : List Rat) : Prop := ∃ xs, Giv C d xs ∧ (∀ i, cf xs i = cf l i) ∧ ∀ x ∈ xs, x = 0 ∨ x ∈ l
theorem cf_app_zero (l : List Rat) (n i : Nat) : cf (l ++ List.replicate n 0) i = cf l i := by
  unfold cf
  rw [List.getD_eq_getElem?_getD, List.getD_eq_getElem?_getD]
  by_cases h : i < l.length
  · rw [List.getElem?_append_left h]
  · rw [List.getElem?_append_right (by omega), List.getElem?_eq_none (l := l) (by omega), List.getElem?_replicate]
    split <;> rfl
theorem gv_giv {C : Addr} {p : Pot} {l : List Rat} (ok : p.Ok) (hl : l.length ≤ 31) : Gv C (givD C p l) l := by
  have z := zerI_le ok l
  have hn : Nums C (givL C p l) (l ++ List.replicate (zerI p l).toNat 0) := nums_append (pas_nums p l) (nums_zero _)
  refine ⟨l ++ List.replicate (zerI p l).toNat 0, ⟨givL C p l, ?_, hn, ?_⟩, cf_app_zero l _, fun x hx => ?_⟩
  · unfold givD
    split
    · exact .inr rfl
    · exact .inl rfl
  · rw [hn.length, List.length_append, List.length_replicate]
    omega
  · rcases List.mem_append.mp hx with h | h
    · exact .inr h
    · exact .inl (List.eq_of_mem_replicate h)
section
variable {P : Program} {w : World} {K : PySem.W.Frag} {mg : Str → Option Value} {base : Heap} {f C : Addr} {fd : FuncData} {gd : Bool}
def S_law_trim : List D → Res → Prop := fun ds r => ∃ l : List Rat, ds = [lpD l] ∧ r = .own (lpD (trim l))
theorem ok_law_trim (F : FunG K "_law_trim" "_law_trim" s_law_trim f fd) (hl : mg "len" = none) : FnB gd P w K mg base 1 f fd ["_law_line_here"] (spD K S_law_trim) := by
  refine fnD F cs_law_trim (fun ds r ⟨_, h, _⟩ => by rw [h]; rfl) (fun cdv A outer s H hr nog ds r h => ?_)
  obtain ⟨l, rfl, rfl⟩ := h
  have nd := cs_law_trim.nd
  refine psd_st (ps1_set 1 nd (pd_callB (cd_len (lp_len (l := l))) hl (pad_cons (pd_var 0) pad_nil))) ?_
  refine psd_while (fun k ρ' => ∃ m : Nat, ρ' = [.val (lpD l), .val (.int (m : Int))] ∧ k = m ∧ m ≤ l.length ∧ cnt l m = cnt l l.length) l.length PassesOwn.never ⟨_, rfl, rfl, Nat.le_refl _, rfl⟩ ?_
  rintro m ρ' ⟨_, rfl, rfl, hm, hc⟩
  have ix : (0 < (m : Int)) → atI (l.map qP) ((m : Int) - 1) = some (qP (cf l (m - 1))) := fun h => by
    have e : (m : Int) - 1 = ((m - 1 : Nat) : Int) := by omega
    rw [e]
    exact atI_nat (lp_get (by omega))
  refine ⟨_, _, (pwd_and (l := decide ((cf l (m - 1)).num = 0)) (ptd_cmp (pd_var 1) pd_int bd_gt rfl) fun h => pwd_and1 (ptd_cmp (pd_ixT (pd_ixL (pd_var 0) (pd_bin (pd_var 1) pd_int bd_sub) (ix (of_decide_eq_true h))) pd_int rfl) pd_int bd_eqI rfl)).pt, fun h => ?_, fun h => ?_⟩
  · rw [Bool.and_eq_true] at h
    have h1 : 0 < (m : Int) := of_decide_eq_true h.1
    have h2 : cf l (m - 1) = 0 := Rat.num_eq_zero.mp (of_decide_eq_true h.2)
    have e : (m : Int) - 1 = ((m - 1 : Nat) : Int) := by omega
    refine psd_st (ps1_set 1 nd (pd_bin (pd_var 1) pd_int bd_sub)) (psd_nil ⟨m - 1, by omega, m - 1, ?_, rfl, by omega, ?_⟩)
    · rw [e]; rfl
    · rw [← hc]
      obtain ⟨k, rfl⟩ : ∃ k, m = k + 1 := ⟨m - 1, by omega⟩
      show cnt l k = if cf l k = 0 then cnt l k else k + 1
      rw [if_pos (show cf l k = 0 from h2)]
  · have hmt : l.take m = trim l := by
      unfold trim
      rw [← hc]
      cases m with
      | zero => rfl
      | succ k =>
        have hk : (0 : Int) < ((k + 1 : Nat) : Int) := by omega
        rw [decide_eq_true hk, Bool.true_and] at h
        have h2 : ¬ cf l k = 0 := fun z => of_decide_eq_false h (by show (cf l k).num = 0; rw [z]; rfl)
        show _ = l.take (if cf l k = 0 then cnt l k else k + 1)
        rw [if_neg h2]
    refine psd_ret (pd_sliceL (pd_var 0) pod_none (pod_some (pd_var 1))) ?_
    refine congrArg (fun q => Res.own (D.lst q)) ?_
    rw [cut_take (by rw [List.length_map]; exact hm), ← hmt, List.map_take]
def T_line : D → List D → Res → D → Prop := fun c ds r c' => ∃ (p : Pot) (m : Int), c = potD p ∧ ds = [.int m] ∧ p.Ok ∧ 0 ≤ m ∧ m ≤ 100 ∧ r = .own (lpD (lineL p m)) ∧ c' = potD (lineP p m)
theorem ok_law_line (F : FunG K "_law_line" "_law_line" s_law_line f fd) (c1 : Cal false P w K mg base 1 "_law_draw" (spIO K T_draw) []) (c2 : Cal true P w K mg base 3 "_law_number" (spIO K T_number) []) (c3 : Cal true P w K mg base 1 "_law_trim" (spD K S_law_trim) []) (hrg : mg "range" = none) : FnB true P w K mg base 4 f fd ["_law_pot_here", "_law_most"] (spIO K T_line) := by
  refine fnIO F cs_law_line (fun c ds r c' ⟨_, _, _, h, _⟩ => by rw [h]; rfl) (fun cdv A outer s H hr nog c ds r c' h => ?_)
  obtain ⟨p, m, rfl, rfl, ok, h0, hm, rfl, rfl⟩ := h
  have nd := cs_law_line.nd
  have o := draw_ok (m := m + 2) ok (by omega)
  refine psd_ret (pd_call c3 hr (pad_cons (pd_still (pd_lc [("_law_at", 2)] (fun i => [.own (potD (numsP (draw p (m + 2)).2 i)), .val (.int m), .non]) (fun i => (List.range i).map fun k => qP (numQ (numsP (draw p (m + 2)).2 k) 6)) nd (pid_range1 hrg (pd_callIO 0 c1 hr rfl (pad_cons (pd_bin (pd_var 1) pd_int bd_add) pad_nil) rfl ⟨p, _, rfl, rfl, ok, by omega, by omega, rfl, rfl⟩) (by omega) (by omega)) (blkOk_by rfl) (fun s H C cl fp => pgd_name 2 nd) rfl (fun _ => rfl) rfl (fun i => by rw [List.length_map, List.length_range]; exact Nat.le_refl _) (by rw [rng_len]; omega) (fun i d hd => ?_))) pad_nil) ⟨numsL (draw p (m + 2)).2 (lineN p m), ?_, rfl⟩ (nog := nog)) ⟨rfl, ?_⟩
  · refine ⟨_, true, _, rfl, ptsb_nil, fun _ => ⟨_, _, fun s H C cl fp => pd_callIO 0 c2 hr rfl (pad_cons pd_int pad_nil) rfl ⟨_, 6, rfl, rfl, numsP_ok o.2.2 i, by decide, by decide, rfl, rfl⟩ (nog := nog), rfl, ?_⟩, fun z => nomatch z⟩
    dsimp only
    rw [List.range_succ, List.map_append]
    rfl
  · rw [rng_len]
    unfold lpD numsL
    rw [List.map_map]
    rfl
  · rw [rng_len]
    rfl
def T_given (C : Addr) : D → List D → Res → D → Prop := fun c ds r c' => ∃ (p : Pot) (l : List Rat), c = potD p ∧ ds = [lpD l] ∧ p.Ok ∧ l.length ≤ 31 ∧ (∀ x ∈ l, Sz 800 x) ∧ r = .val (givD C p l) ∧ c' = potD (givP p l)
theorem ok_law_given (F : FunG K "_law_given" "_law_given" s_law_given f fd) (B : Bi mg) (c1 : Cal false P w K mg base 1 "_law_draw" (spIO K T_draw) []) (c2 : Cal false P w K mg base 2 "_law_pick" (spIO K T_pick) []) (c3 : Cal true P w K mg base 5 "_law_passed" (spIO K (T_passed C)) []) (hl : mg "len" = none) : FnB true P w K mg base 6 f fd ["_law_pot_here", "_law_line_here"] (spIO K (T_given C)) := by
  refine fnIO F cs_law_given (fun c ds r c' ⟨_, _, _, h, _⟩ => by rw [h]; rfl) (fun cdv A outer s H hr nog c ds r c' h => ?_)
  obtain ⟨p, l, rfl, rfl, ok, hll, sl, rfl, rfl⟩ := h
  have nd := cs_law_given.nd
  have okL := pasP_ok ok l l.length
  have o4 := draw_ok (m := 4) okL (by decide)
  have zI := zerI_le ok l
  have pk4 : ([D.int 0, .int 0, .int 1, .int 2])[(draw (pasP p l l.length) 4).1.toNat]? = some (.int (zerN (draw (pasP p l l.length) 4).1)) := by
    generalize (draw (pasP p l l.length) 4).1 = k at *
    have : k = 0 ∨ k = 1 ∨ k = 2 ∨ k = 3 := by omega
    rcases this with rfl | rfl | rfl | rfl <;> rfl
  have pasLen : (pasL C p l).length = l.length := by unfold pasL; rw [List.length_map, List.length_range]
  have turn : ∀ (i : Nat) (d : D), (l.map qP)[i]? = some d → ∃ x, d = qP x ∧ x = cf l i ∧ Sz 8000 x := fun i d hd => by
    rw [List.getElem?_map] at hd
    obtain ⟨x, hx, rfl⟩ := Option.map_eq_some_iff.mp hd
    have hi := (List.getElem?_eq_some_iff.mp hx).1
    refine ⟨x, rfl, ?_, (sl x (List.mem_of_getElem? hx)).mono (by decide)⟩
    rw [cf_lt hi]
    rw [List.getElem?_eq_getElem hi] at hx
    exact (Option.some.inj hx).symm
  have zlen : (List.replicate (zerI p l).toNat [D.int 0]).flatten.length = (zerI p l).toNat := by
    rw [(nums_zero (C := C) _).length, List.length_replicate]
  refine psd_cons (fun ρ' => ρ' = [.own (potD (zerP p l)), .val (lpD l), .val (.lst (givL C p l)), .non]) ?_ fun ρ' e => ?_
  · unfold givL zerP
    by_cases h29 : (l.length : Int) < 29
    · have ez : zerI p l = zerN (draw (pasP p l l.length) 4).1 := if_pos h29
      rw [ez] at zI zlen
      rw [if_pos h29, ez]
      refine ps1_set 2 nd (pd_still (pd_bin (pd_castR (pd_cast (pd_still (pd_lc [("_law_one", 3)] (fun i => [.own (potD (pasP p l i)), .val (lpD l), .non, .non]) (fun i => (List.range i).map fun k => passD C (pasP p l k) (cf l k)) nd (pid_list (pd_var 1)) (blkOk_by rfl) (fun s H C cl fp => pgd_name 3 nd) rfl (fun _ => rfl) rfl (fun i => by rw [List.length_map, List.length_range]; exact Nat.le_refl _) (by rw [List.length_map]; omega) (fun i d hd => ?_))) (d' := .lst (pasL C p l)) (by rw [List.length_map]; rfl)) (ρ2 := [.own (potD (pasP p l l.length)), .val (lpD l), .non, .non]) (by rw [List.length_map]))
        (pd_still (pd_bin (pd_still (pd_lst (pad_cons pd_int pad_nil))) (pd_ifT (ptd_eq (ptd_cmp (pd_callB (cd_len (lp_len (l := l))) hl (pad_cons (pd_var 1) pad_nil)) pd_int bd_lt rfl) (decide_eq_true h29)) (pd_callIO 0 c2 hr rfl (pad_cons (pd_still (pd_lst (pad_cons pd_int (pad_cons pd_int (pad_cons pd_int (pad_cons pd_int pad_nil)))))) pad_nil) rfl ⟨_, [.int 0, .int 0, .int 1, .int 2], _, rfl, rfl, okL, by decide, by decide, pk4, rfl, rfl⟩)) (bd_repL zI.1 (by show 1 * _ ≤ _; omega) (by omega)))) (bd_catL (by rw [pasLen, zlen]; omega)))) rfl
      obtain ⟨x, rfl, rfl, hx⟩ := turn i d hd
      refine ⟨_, true, _, rfl, ptsb_nil, fun _ => ⟨_, _, fun s H C' cl fp => pd_callIO 0 c3 hr rfl (pad_cons (pd_var 3) pad_nil) rfl ⟨_, _, rfl, rfl, pasP_ok ok l i, hx, rfl, rfl⟩ (nog := nog), rfl, ?_⟩, fun z => nomatch z⟩
      dsimp only
      rw [List.range_succ, List.map_append]
      rfl
    · have ez : zerI p l = 0 := if_neg h29
      rw [ez] at zI zlen
      rw [if_neg h29, ez]
      refine ps1_set 2 nd (pd_still (pd_bin (pd_castR (pd_cast (pd_still (pd_lc [("_law_one", 3)] (fun i => [.own (potD (pasP p l i)), .val (lpD l), .non, .non]) (fun i => (List.range i).map fun k => passD C (pasP p l k) (cf l k)) nd (pid_list (pd_var 1)) (blkOk_by rfl) (fun s H C cl fp => pgd_name 3 nd) rfl (fun _ => rfl) rfl (fun i => by rw [List.length_map, List.length_range]; exact Nat.le_refl _) (by rw [List.length_map]; omega) (fun i d hd => ?_))) (d' := .lst (pasL C p l)) (by rw [List.length_map]; rfl)) (ρ2 := [.own (potD (pasP p l l.length)), .val (lpD l), .non, .non]) (by rw [List.length_map]))
        (pd_still (pd_bin (pd_still (pd_lst (pad_cons pd_int pad_nil))) (pd_ifF (ptd_eq (ptd_cmp (pd_callB (cd_len (lp_len (l := l))) hl (pad_cons (pd_var 1) pad_nil)) pd_int bd_lt rfl) (decide_eq_false h29)) pd_int) (bd_repL (by decide) (by decide) (by decide)))) (bd_catL (by rw [pasLen, zlen]; omega)))) rfl
      obtain ⟨x, rfl, rfl, hx⟩ := turn i d hd
      refine ⟨_, true, _, rfl, ptsb_nil, fun _ => ⟨_, _, fun s H C' cl fp => pd_callIO 0 c3 hr rfl (pad_cons (pd_var 3) pad_nil) rfl ⟨_, _, rfl, rfl, pasP_ok ok l i, hx, rfl, rfl⟩ (nog := nog), rfl, ?_⟩, fun z => nomatch z⟩
      dsimp only
      rw [List.range_succ, List.map_append]
      rfl
  subst e
  have okz := zerP_ok ok l
  unfold givD givP
  by_cases h0 : (draw (zerP p l) 4).1 = 0
  · rw [if_pos h0]
    exact psd_ret (pd_ifT (ptd_eq (ptd_cmp (pd_callIO 0 c1 hr rfl (pad_cons pd_int pad_nil) rfl ⟨_, 4, rfl, rfl, okz, by decide, by decide, rfl, rfl⟩) pd_int bd_eqI rfl) (decide_eq_true h0)) (pd_callTy cd_tuple B.tuple (pad_cons (pd_var 2) pad_nil))) ⟨rfl, rfl⟩
  · rw [if_neg h0]
    exact psd_ret (pd_ifF (ptd_eq (ptd_cmp (pd_callIO 0 c1 hr rfl (pad_cons pd_int pad_nil) rfl ⟨_, 4, rfl, rfl, okz, by decide, by decide, rfl, rfl⟩) pd_int bd_eqI rfl) (decide_eq_false h0)) (pd_var 2)) ⟨rfl, rfl⟩
end
end Dn
end
section
set_option Elab.async false
set_option linter.all false
set_option maxRecDepth 100000
set_option maxHeartbeats 2000000
set_option exponentiation.threshold 10000
namespace Dn
open PySem PySem.Spec L2
/-! ### the law's own product -/
section
variable {P : Program} {w : World} {K : PySem.W.Frag} {mg : Str → Option Value} {base : Heap} {f C : Addr} {fd : FuncData} {gd : Bool}
def S_law_line_sum : List D → Res → Prop := fun ds r => ∃ l m : List Rat, ds = [lpD l, lpD m] ∧ l.length ≤ 1000 ∧ m.length ≤ 1000 ∧ (∀ x ∈ l, Sz 3700 x) ∧ (∀ x ∈ m, Sz 3700 x) ∧ r = .own (lpD (pAdd l m))
theorem ok_law_line_sum (F : FunG K "_law_line_sum" "_law_line_sum" s_law_line_sum f fd) (c1 : Cal true P w K mg base 2 "_law_sum" (spD K S_law_sum) []) (c2 : Cal true P w K mg base 1 "_law_trim" (spD K S_law_trim) []) (hl : mg "len" = none) (hmx : mg "max" = none) (hrg : mg "range" = none) : FnB true P w K mg base 3 f fd ["_law_one", "_law_other"] (spD K S_law_line_sum) := by
  refine fnD F cs_law_line_sum (fun ds r ⟨_, _, h, _⟩ => by rw [h]; rfl) (fun cdv A outer s H hr nog ds r h => ?_)
  obtain ⟨l, m, rfl, hll, hml, sl, sm, rfl⟩ := h
  have nd := cs_law_line_sum.nd
  obtain ⟨j, hj, hjm⟩ : ∃ j : Int, (if (m.length : Int) > (l.length : Int) then (m.length : Int) else (l.length : Int)) = j ∧ j = (max l.length m.length : Nat) := ⟨_, rfl, by split <;> omega⟩
  refine psd_st (ps1_set 2 nd (pd_lst pad_nil)) ?_
  refine psd_for (fun i ρ' => ∃ s3 : Sl, ρ' = [.val (lpD l), .val (lpD m), .own (lpD (ofF i fun k => cf l k + cf m k)), s3]) PassesOwn.never (pid_range1 hrg (pd_cast (pd_callB cd_max hmx (pad_cons (pd_callB (cd_len (lp_len (l := l))) hl (pad_cons (pd_var 0) pad_nil)) (pad_cons (pd_callB (cd_len (lp_len (l := m))) hl (pad_cons (pd_var 1) pad_nil)) pad_nil))) (congrArg D.int hj)) (by omega) (by omega)) (pgd_name 3 nd) ⟨.non, rfl⟩ ?_ ?_
  · rintro i d ρ' hd ⟨s3, rfl⟩
    have hi : i < j.toNat := by
      have := (List.getElem?_eq_some_iff.mp hd).1
      rw [rng_len] at this
      exact this
    rw [rng_get hi, Int.zero_add] at hd
    cases hd
    have z1 := cf_sz (n := 3700) sl (i := i)
    have z2 := cf_sz (n := 3700) sm (i := i)
    refine ⟨_, rfl, psd_st (ps1_append 2 (pd_call c1 hr (pad_cons (pd_if (r := .val (qP (cf l i))) (ptd_cmp (pd_var 3) (pd_callB (cd_len (lp_len (l := l))) hl (pad_cons (pd_var 0) pad_nil)) bd_lt rfl) (fun h => pd_ixL (pd_var 0) (pd_var 3) (atI_nat (lp_get (by have := of_decide_eq_true h; omega)))) (fun h => pd_cast (pd_tup (pad_cons pd_int (pad_cons pd_int pad_nil))) (by rw [cf_ge (by have := of_decide_eq_false h; omega)]; rfl)))
      (pad_cons (pd_if (r := .val (qP (cf m i))) (ptd_cmp (pd_var 3) (pd_callB (cd_len (lp_len (l := m))) hl (pad_cons (pd_var 1) pad_nil)) bd_lt rfl) (fun h => pd_ixL (pd_var 1) (pd_var 3) (atI_nat (lp_get (by have := of_decide_eq_true h; omega)))) (fun h => pd_cast (pd_tup (pad_cons pd_int (pad_cons pd_int pad_nil))) (by rw [cf_ge (by have := of_decide_eq_false h; omega)]; rfl))) pad_nil)) ⟨_, _, 3700, 3700, rfl, z1, z2, by decide, rfl⟩ (nog := nog)) (hz := by rw [List.length_map, ofF_len]; omega)) (psd_nil ⟨.val (.int (i : Int)), ?_⟩)⟩
    have ea : ofF (i + 1) (fun k => cf l k + cf m k) = ofF i (fun k => cf l k + cf m k) ++ [cf l i + cf m i] := by
      unfold ofF
      rw [List.range_succ, List.map_append]
      rfl
    unfold lpD
    rw [ea, List.map_append]
    rfl
  rintro ρ' ⟨s3, rfl⟩
  rw [rng_len, hjm, Int.toNat_natCast]
  refine psd_still 2 rfl ?_
  exact psd_ret (pd_call c2 hr (pad_cons (pd_var 2) pad_nil) ⟨_, rfl, rfl⟩ (nog := nog)) rfl
def S_law_line_scaled : List D → Res → Prop := fun ds r => ∃ (l : List Rat) (c : Rat), ds = [lpD l, qP c] ∧ l.length ≤ 1000000 ∧ (∀ x ∈ l, Sz 3700 x) ∧ Sz 3700 c ∧ r = .own (lpD (pScl l c))
theorem ok_law_line_scaled (F : FunG K "_law_line_scaled" "_law_line_scaled" s_law_line_scaled f fd) (c1 : Cal true P w K mg base 2 "_law_by" (spD K S_law_by) []) (c2 : Cal true P w K mg base 1 "_law_trim" (spD K S_law_trim) []) : FnB true P w K mg base 3 f fd ["_law_one", "_law_number_here"] (spD K S_law_line_scaled) := by
  refine fnD F cs_law_line_scaled (fun ds r ⟨_, _, h, _⟩ => by rw [h]; rfl) (fun cdv A outer s H hr nog ds r h => ?_)
  obtain ⟨l, c, rfl, hl, sl, sc, rfl⟩ := h
  have nd := cs_law_line_scaled.nd
  refine psd_ret (pd_call c2 hr (pad_cons (pd_still (pd_map (ys := (l.map (· * c)).map qP) [("_law_part", 2)] nd (pid_list (pd_var 0)) (fun s H C cl fp => pgd_name 2 nd) (by simp) (fun i d y h1 h2 => ?_) (by rw [List.length_map]; exact hl))) pad_nil) ⟨_, rfl, rfl⟩ (nog := nog)) (congrArg (fun q => Res.own (lpD q)) (trim_map_scl l c))
  rw [List.getElem?_map] at h1
  obtain ⟨x, hx, rfl⟩ := Option.map_eq_some_iff.mp h1
  rw [List.getElem?_map, List.getElem?_map, hx] at h2
  cases h2
  exact ⟨_, _, rfl, fun s H C' cl fp => pd_call c1 hr (pad_cons (pd_var 2) (pad_cons (pd_var 1) pad_nil)) ⟨x, c, 3700, 3700, rfl, sl x (List.mem_of_getElem? hx), sc, by decide, rfl⟩ (nog := nog), rfl⟩
end
end Dn
end
section
set_option Elab.async false
set_option linter.all false
set_option maxRecDepth 100000
set_option maxHeartbeats 2000000
set_option exponentiation.threshold 10000
namespace Dn
open PySem PySem.Spec L2
theorem listText_le (ts : List Str) : (listText ts).length ≤ 2 + piled ts := by
  cases ts with
  | nil => decide
  | cons t r =>
    have h := textFrom_length_pos r 1 (("[" : Str) ++ (if (0 : Nat) > 0 then ", " else "" : String) ++ t) (Nat.succ_pos 0)
    have e : ((("[" : Str) ++ (if (0 : Nat) > 0 then ", " else "" : String) ++ t)).length = 1 + t.length := by
      rw [strLen_append, strLen_append]
      rfl
    have hX : (listText (t :: r)).length = (textFrom 1 (("[" : Str) ++ (if (0 : Nat) > 0 then ", " else "" : String) ++ t) r).length + 1 := by
      show (textFrom 1 (("[" : Str) ++ (if (0 : Nat) > 0 then ", " else "" : String) ++ t) r ++ "]").length = _
      rw [strLen_append]
      rfl
    rw [hX, h, e, piled_cons]
    omega
theorem tupleText_le (ts : List Str) : (tupleText ts).length ≤ 3 + piled ts := by
  have j : (Str.join ", " ts).length ≤ piled ts := by
    cases ts with
    | nil => decide
    | cons t r =>
      have := join_length_add (t :: r) (by simp)
      omega
  unfold tupleText
  rw [strLen_append, strLen_append]
  have a : ((if (ts.length == 1) = true then (",)" : Str) else (")" : Str)) : Str).length ≤ 2 := by split <;> decide
  have b : (("(" : Str)).length = 1 := rfl
  have c : (Str.ofString (if (ts.length == 1) = true then ",)" else ")")).length ≤ 2 := by split <;> decide
  omega
theorem piled_le {n : Nat} : ∀ (ts : List Str), (∀ t ∈ ts, t.length ≤ n) → piled ts ≤ ts.length * (n + 2)
  | [], _ => by rw [piled_nil]; exact Nat.zero_le _
  | t :: ts, h => by
    have h1 := h t (List.mem_cons_self ..)
    have h2 := piled_le ts fun u hu => h u (List.mem_cons_of_mem _ hu)
    rw [piled_cons, List.length_cons, Nat.succ_mul]
    omega
theorem qrepr_len {x : Rat} (h : Sz 1800 x) : (qrepr x).length ≤ 4000 := by
  have l1 := len_str h.1
  have l2 := len_str h.2
  unfold qrepr
  rw [strLen_append, strLen_append, strLen_append, strLen_append]
  show 6 + _ + 2 + _ + 1 ≤ 4000
  omega
/-- a special method -/
structure OwnS (P : Program) (w : World) (K : PySem.W.Frag) (mg : Str → Option Value) (base : Heap) (k : Nat) (C : Addr) (nm : Str) (S : List D → Res → Prop) : Prop where
  ex : ∃ (f : Addr) (fd : FuncData) (ps : List Str), PySem.W.findIn K (.ref C) nm = some (some (.ref f)) ∧ PySem.W.isFn K (.ref f) = true ∧ FnOk P w K mg base CX0 k f fd ps (spD K S) ∧ Binds K fd ps []
section
variable {X : Cx} {C : Addr} {j : Nat}
theorem txd_q {x : Rat} (o : OwnS X.prog X.w X.K X.mg X.base 2 C "__repr__" (S_txt C qrepr)) (h : Sz 1800 x) : TxD X 2 (qD C x) (qrepr x) := by
  obtain ⟨f, fd, ps, a, fn, F, hb⟩ := o.ex
  exact txd_obj a fn F hb ⟨x, rfl, h.mono (by decide), rfl⟩
theorem txds_ln (o : OwnS X.prog X.w X.K X.mg X.base 2 C "__repr__" (S_txt C qrepr)) : ∀ {l : List Rat}, (∀ x ∈ l, Sz 1800 x) → TxDs X 2 (l.map (qD C)) (l.map qrepr)
  | [], _ => .nil
  | x :: l, h => .cons (txd_q o (h x (List.mem_cons_self ..))) (txds_ln o fun y hy => h y (List.mem_cons_of_mem _ hy))
theorem ln_text {l : List Rat} (h : ∀ x ∈ l, Sz 1800 x) (hl : l.length ≤ 1000) : (listText (l.map qrepr)).length ≤ sizeLine := by
  have a := listText_le (l.map qrepr)
  have b := piled_le (n := 4000) (l.map qrepr) fun t ht => by
    obtain ⟨x, hx, rfl⟩ := List.mem_map.mp ht
    exact qrepr_len (h x hx)
  rw [List.length_map] at b
  have c : l.length * 4002 ≤ 1000 * 4002 := Nat.mul_le_mul_right _ hl
  rw [sizeLine_eq]
  omega
theorem rep_ln {l : List Rat} (nog : X.A.guards = some []) (o : OwnS X.prog X.w X.K X.mg X.base 2 C "__repr__" (S_txt C qrepr)) (h : ∀ x ∈ l, Sz 1800 x) (hl : l.length ≤ 1000) (hr : Room j X.A) (hk : 4 ≤ j := by decide) : CallD X (.builtin "repr") [lnD C l] (.val (.str (listText (l.map qrepr)))) := by
  have t := txds_ln (X := X) o h
  exact cd_reprT nog t.pns t.get t.length (ln_text h hl) hr hk
/-- the text of a number given -/
def nTx (d : D) (x : Rat) : Str := match d with
  | .int i => Str.ofString (toString i)
  | _ => qrepr x
theorem txd_num {d : D} {x : Rat} (o : OwnS X.prog X.w X.K X.mg X.base 2 C "__repr__" (S_txt C qrepr)) (h : Num C d x) (hx : Sz 1800 x) : TxD X 2 d (nTx d x) := by
  cases h with
  | q x => exact txd_q o hx
  | i n =>
    have e : (n : Rat).num = n := by simp
    have b : Bd 1800 n := by
      have := hx.1
      rwa [e] at this
    exact txd_int (b.log (by decide))
theorem txds_nums (o : OwnS X.prog X.w X.K X.mg X.base 2 C "__repr__" (S_txt C qrepr)) : ∀ {ds : List D} {xs : List Rat}, Nums C ds xs → (∀ x ∈ xs, Sz 1800 x) → TxDs X 2 ds (List.zipWith nTx ds xs)
  | _, _, .nil, _ => .nil
  | _, _, .cons a b, h => .cons (txd_num o a (h _ (List.mem_cons_self ..))) (txds_nums o b fun y hy => h y (List.mem_cons_of_mem _ hy))
theorem nTx_len {d : D} {x : Rat} (h : Num C d x) (hx : Sz 1800 x) : (nTx d x).length ≤ 4000 := by
  cases h with
  | q x => exact qrepr_len hx
  | i n =>
    have e : (n : Rat).num = n := by simp
    have b : Bd 1800 n := by
      have := hx.1
      rwa [e] at this
    have := len_str b
    show (Str.ofString (toString n)).length ≤ 4000
    omega
theorem nums_text : ∀ {ds : List D} {xs : List Rat}, Nums C ds xs → (∀ x ∈ xs, Sz 1800 x) → ∀ t ∈ List.zipWith nTx ds xs, t.length ≤ 4000
  | _, _, .nil, _, t, ht => by cases ht
  | _, _, .cons a b, h, t, ht => by
    rw [List.zipWith_cons_cons] at ht
    rcases List.mem_cons.mp ht with rfl | ht
    · exact nTx_len a (h _ (List.mem_cons_self ..))
    · exact nums_text b (fun y hy => h y (List.mem_cons_of_mem _ hy)) t ht
/-- repr of what is given -/
def givTx (d : D) (xs : List Rat) : Str := match d with
  | .lst dl => listText (List.zipWith nTx dl xs)
  | .tup dl => tupleText (List.zipWith nTx dl xs)
  | _ => Str.empty
theorem giv_small {ds : List D} {xs : List Rat} (hn : Nums C ds xs) (hx : ∀ x ∈ xs, Sz 1800 x) (hl : ds.length ≤ 31) : piled (List.zipWith nTx ds xs) ≤ 31 * 4002 := by
  have b := piled_le (n := 4000) _ (nums_text hn hx)
  have c : (List.zipWith nTx ds xs).length ≤ 31 := by
    rw [List.length_zipWith]
    omega
  have d : (List.zipWith nTx ds xs).length * 4002 ≤ 31 * 4002 := Nat.mul_le_mul_right _ c
  omega
/-- the same line twice -/
theorem eqd_q {x : Rat} (o : OwnS X.prog X.w X.K X.mg X.base 1 C "__eq__" (S_eq X.K C)) (nf : PySem.W.notFirst X.K C (.ref C) = true) : EqD X 1 (qD C x) (qD C x) true := by
  obtain ⟨f, fd, ps, a, fn, F, hb⟩ := o.ex
  exact eqd_obj a fn nf F hb ⟨x, _, _, rfl, rfl, .inl ⟨x, rfl, (decide_eq_true rfl).symm⟩⟩ fun _ _ _ _ => rfl
theorem eqds_ln (o : OwnS X.prog X.w X.K X.mg X.base 1 C "__eq__" (S_eq X.K C)) (nf : PySem.W.notFirst X.K C (.ref C) = true) : ∀ l : List Rat, EqDs X 1 (l.map (qD C)) (l.map (qD C)) (l.map fun _ => true)
  | [] => .nil
  | x :: l => .cons (eqd_q o nf) (eqds_ln o nf l)
theorem all_true (l : List Rat) : (l.map fun _ => true).all id = true := by
  rw [List.all_eq_true]
  intro b hb
  obtain ⟨_, _, rfl⟩ := List.mem_map.mp hb
  rfl
theorem ne_same {l m : List Rat} (o : OwnS X.prog X.w X.K X.mg X.base 1 C "__eq__" (S_eq X.K C)) (nf : PySem.W.notFirst X.K C (.ref C) = true) (e : l = m) (hr : Room j X.A) (hk : 2 ≤ j := by decide) : BinD X (compareOp .NotEq) (lnD C l) (lnD C m) (.val (.bl false)) := by
  subst e
  have h := bd_neL (eqds_ln o nf l) hr hk
  rw [all_true] at h
  exact h
theorem eq_same {l m : List Rat} (o : OwnS X.prog X.w X.K X.mg X.base 1 C "__eq__" (S_eq X.K C)) (nf : PySem.W.notFirst X.K C (.ref C) = true) (e : l = m) (hr : Room j X.A) (hk : 2 ≤ j := by decide) : BinD X (compareOp .Eq) (lnD C l) (lnD C m) (.val (.bl true)) := by
  subst e
  have h := bd_eqL (eqds_ln o nf l) hr hk
  rw [all_true] at h
  exact h
end
section
variable {P : Program} {w : World} {K : PySem.W.Frag} {mg : Str → Option Value} {base : Heap} {f C : Addr} {fd : FuncData} {gd : Bool}
def S_law_is_line (C : Addr) : List D → Res → Prop := fun ds r => ∃ l m : List Rat, ds = [lnD C l, lpD m] ∧ l = m ∧ (∀ x ∈ l, Sz 1800 x) ∧ l.length ≤ 1000 ∧ r = .val (.bl true)
theorem ok_law_is_line (F : FunG K "_law_is_line" "_law_is_line" s_law_is_line f fd) (B : Bi mg) (kll : PySem.W.kitOne K (.type "list") (.type "list") = some true) (o : OwnS P w K mg base 2 C "__repr__" (S_txt C qrepr)) (c1 : Cal true P w K mg base 4 "_law_ratio" (spD K (S_law_ratio C)) []) (hrp : mg "repr" = none) : FnB true P w K mg base 5 f fd ["_law_kept", "_law_line_here"] (spD K (S_law_is_line C)) := by
  refine fnD F cs_law_is_line (fun ds r ⟨_, _, h, _⟩ => by rw [h]; rfl) (fun cdv A outer s H hr nog ds r h => ?_)
  obtain ⟨l, _, rfl, rfl, sl, hl, rfl⟩ := h
  have nd := cs_law_is_line.nd
  refine psd_ret (pd_blc (pd_and (k := true) (l := true) (pd_callB (cd_isi (.lst _) (.ty _) kll) B.isi (pad_cons (pd_var 0) (pad_cons (pd_ty B.list) pad_nil))) fun _ => pd_one (pd_blc (pd_cmp (pd_callB (rep_ln (nog rfl) o sl hl hr) hrp (pad_cons (pd_var 0) pad_nil)) (pd_callB (rep_ln (nog rfl) o sl hl hr) hrp (pad_cons (pd_still (pd_map (ys := l.map (qD C)) [("_law_one", 2)] nd (pid_list (pd_var 1)) (fun s H C cl fp => pgd_name 2 nd) (by simp) (fun i d y h1 h2 => ?_) (by rw [List.length_map]; omega))) pad_nil)) bd_eqS rfl) (decide_eq_true rfl))) rfl) rfl
  rw [List.getElem?_map] at h1
  obtain ⟨x, hx, rfl⟩ := Option.map_eq_some_iff.mp h1
  rw [List.getElem?_map, hx] at h2
  cases h2
  exact ⟨_, _, rfl, fun s H C' cl fp => pd_still (pd_call c1 hr (pad_cons (pd_var 2) pad_nil) ⟨x, rfl, (sl x (List.mem_of_getElem? hx)).mono (by decide), rfl⟩ (nog := nog)), rfl⟩
end
end Dn
end
section
set_option Elab.async false
set_option linter.all false
set_option maxRecDepth 100000
set_option maxHeartbeats 4000000
set_option exponentiation.threshold 10000
namespace Dn
open PySem PySem.Spec L2
theorem own_shift (s : Nat) (k : List Rat) (i : Nat) : cf (List.replicate s (0 : Rat) ++ k) i = if s ≤ i then cf k (i - s) else 0 := by
  unfold cf
  rw [List.getD_eq_getElem?_getD, List.getD_eq_getElem?_getD]
  split
  · rw [List.getElem?_append_right (by rw [List.length_replicate]; assumption), List.length_replicate]
  · rw [List.getElem?_append_left (by rw [List.length_replicate]; omega), List.getElem?_replicate, if_pos (by omega)]
    rfl
theorem own_step {r m : List Rat} (tm : Tr m) (h0 : 0 < m.length) (h : m.length ≤ r.length) : pAdd r (List.replicate (r.length - m.length) 0 ++ pScl m (-(fac r m))) = trim (dsub r m) := tr_ext (pAdd_tr _ _) (trim_tr _) fun i => by
  rw [cf_pAdd, cf_trim, cf_dsub tm h0 h i, conv_mono, own_shift, cf_pScl]
  split <;> grind
theorem atI_lpO {l : List Rat} {z : Int} {k : Nat} (h : ixN l.length z = some k) (hk : k < l.length) : atI (l.map qP) z = some (qP (cf l k)) := by
  unfold atI
  rw [List.length_map, h]
  show (l.map qP)[k]? = _
  rw [List.getElem?_map, List.getElem?_eq_getElem hk, cf_lt hk]
  rfl
theorem qP_negO (x : Rat) : D.tup [.int (0 - x.num), .int (x.den : Int)] = qP (-x) := by
  unfold qP
  rw [Rat.neg_num, Rat.neg_den, Int.zero_sub]
theorem rep_lp (n : Nat) : (List.replicate n [D.tup [.int 0, .int 1]]).flatten = (List.replicate n (0 : Rat)).map qP := by
  induction n with
  | zero => rfl
  | succ n ih => rw [List.replicate_succ, List.replicate_succ, List.flatten_cons, ih]; rfl
local macro_rules | `(tactic| ac_rfl) => `(tactic| ((with_reducible change PSD _ _ (Stmt.Assign [Expr.Tuple [Expr.Name "_law_left" _, Expr.Name "_law_found" _] _ _] _ _ :: _) _ _); refine' a_parVO (by assumption) ?_ ?_ ?_ ?_ ?_ ?_ ?_ ?_))
local macro_rules | `(tactic| ac_rfl) => `(tactic| ((with_reducible change PSD _ _ (Stmt.Assign [Expr.Name "_law_left" _] _ _ :: _) _ _); refine' a_setV (by assumption) ?_ ?_ ?_ ?_))
section
variable {P : Program} {w : World} {K : PySem.W.Frag} {mg : Str → Option Value} {base : Heap} {f C : Addr} {fd : FuncData}
def S_law_over : List D → Res → Prop := fun ds r => ∃ x y : Rat, ds = [qP x, qP y] ∧ y ≠ 0 ∧ Sz 3700 x ∧ Sz 3700 y ∧ r = .val (qP (x / y))
theorem ok_law_over (F : FunG K "_law_over" "_law_over" s_law_over f fd) (c1 : Cal true P w K mg base 1 "_law_low" (spD K S_low) []) : FnB true P w K mg base 2 f fd ["_law_one", "_law_other"] (spD K S_law_over) := by
  refine fnA F cs_law_over (fun ds r ⟨_, _, h, _⟩ => by rw [h]; rfl) (fun cdv A outer s H hX nog ds r h => ?_)
  obtain ⟨x, y, rfl, hy, sx, sy, rfl⟩ := h
  have low : S_low [.int (x.num * y.den), .int (x.den * y.num)] (.val (qP (x / y))) := ⟨_, _, rfl, mul_ne (den_ne _) (fun e => hy (Rat.num_eq_zero.mp e)), (sx.2.mul sy.1).mono (by decide), congrArg (fun q => Res.val (qP q)) (of_div _ _).symm⟩
  have low2 : S_low [.int (x.num * y.den), .int (y.num * x.den)] (.val (qP (x / y))) := by rw [Int.mul_comm y.num]; exact low
  have cm1 : CMulW x.num y.den := sx.1.cmul sy.2
  have cm2 : CMulW (x.den : Int) y.num := sx.2.cmul sy.1
  show PSD _ _ _ [.val _, .val _] _
  repeat ac_rfl
def S_law_divided : List D → Res → Prop := fun ds r => ∃ l m : List Rat, ds = [lpD l, lpD m] ∧ Tr l ∧ Tr m ∧ 0 < m.length ∧ l.length ≤ 100 ∧ m.length ≤ 100 ∧ (∃ Q, Fam Q m (l.length + 1 - m.length) ∧ ∀ x ∈ l, Q 0 x) ∧ r = .val (.tup [lpD (quo l m), lpD (rem l m)])
theorem ok_law_divided (F : FunG K "_law_divided" "_law_divided" s_law_divided f fd) (c1 : Cal true P w K mg base 2 "_law_over" (spD K S_law_over) []) (c2 : Cal true P w K mg base 3 "_law_line_sum" (spD K S_law_line_sum) []) (c3 : Cal true P w K mg base 3 "_law_line_scaled" (spD K S_law_line_scaled) []) (c4 : Cal true P w K mg base 1 "_law_trim" (spD K S_law_trim) []) (hln : mg "len" = none) (hls : mg "list" = none) (hmx : mg "max" = none) : FnB true P w K mg base 4 f fd ["_law_line_here", "_law_other"] (spD K S_law_divided) := by
  refine fnA F cs_law_divided (fun ds r ⟨_, _, h, _⟩ => by rw [h]; rfl) (fun cdv A outer s H hX nog ds r h => ?_)
  obtain ⟨l, m, rfl, tl, tm, h0, hl, hm, ⟨Q, fam, hq⟩, rfl⟩ := h
  show PSD _ _ _ [.val _, .val _, .non, .non, .non, .non] _
  repeat ac_rfl
  have e0 : (D.lst (List.replicate (if (l.length : Int) - (m.length : Int) + 1 > 0 then (l.length : Int) - (m.length : Int) + 1 else 0).toNat [D.tup [D.int 0, D.int 1]]).flatten) = lpD (List.replicate (l.length + 1 - m.length) 0) := by
    rw [rep_lp]
    have : (if (l.length : Int) - (m.length : Int) + 1 > 0 then (l.length : Int) - (m.length : Int) + 1 else 0).toNat = l.length + 1 - m.length := by split <;> omega
    rw [this]
  rw [e0]
  refine' a_while (fun mm ρ' => ∃ (r q : List Rat) (s4 s5 : Sl), mm = r.length ∧ r.length ≤ l.length ∧ Tr r ∧ At l m q r ∧ (∀ x ∈ r, Q (l.length - r.length) x) ∧ ρ' = [.val (lpD l), .val (lpD m), .val (lpD r), .own (lpD q), s4, s5]) l.length ?_ ?_
  rotate_left
  · rintro mm ρ' ⟨r, q, s4, s5, rfl, hr, tr, hA, hqr, rfl⟩
    refine' ⟨decide ((r.length : Int) ≥ (m.length : Int)), [.val (lpD l), .val (lpD m), .val (lpD r), .own (lpD q), s4, s5], ?_, ?_, ?_⟩
    · repeat ac_rfl
    · intro z
      have z : m.length ≤ r.length := by have := of_decide_eq_true z; omega
      have zr : 0 < r.length := by omega
      have ixr : atI (r.map qP) (-1) = some (qP (cf r (r.length - 1))) := atI_lpO (ixN_last zr) (by omega)
      have ixm : atI (m.map qP) (-1) = some (qP (cf m (m.length - 1))) := atI_lpO (ixN_last h0) (by omega)
      have hn : l.length - r.length < l.length + 1 - m.length := by omega
      have sr : ∀ i, Sz 3700 (cf r i) := fun i => fam.sz _ _ (by omega) (fam.cf hqr i)
      have sm : ∀ i, Sz 3700 (cf m i) := cf_sz fam.ms (hn := by decide)
      have mh : cf m (m.length - 1) ≠ 0 := tm.resolve_left (by omega)
      have f8 : Sz 3700 (fac r m) := fam.sz _ _ (by omega) (fam.div _ _ hn (fam.cf hqr _))
      have ov : S_law_over [qP (cf r (r.length - 1)), qP (cf m (m.length - 1))] (.val (qP (fac r m))) := ⟨_, _, rfl, mh, sr _, sm _, rfl⟩
      have tb : S_law_line_scaled [lpD m, .tup [.int (0 - (fac r m).num), .int ((fac r m).den : Int)]] (.own (lpD (pScl m (-(fac r m))))) := ⟨m, _, by rw [qP_negO], by omega, fam.ms, f8.neg, rfl⟩
      have pr : ∀ x ∈ pScl m (-(fac r m)), Sz 3700 x := fun x hx => by
        obtain ⟨i, hi, rfl⟩ := ofF_mem (trim_mem hx)
        rw [Rat.mul_comm, Rat.neg_mul]
        exact (fam.pr _ _ _ hn (fam.cf hqr _) (by rw [cf_lt hi]; exact List.getElem_mem _)).neg
      have ts : S_law_line_sum [lpD r, .lst ((List.replicate ((r.length : Int) - (m.length : Int)).toNat [D.tup [D.int 0, D.int 1]]).flatten ++ (pScl m (-(fac r m))).map qP)] (.own (lpD (trim (dsub r m)))) := by
        refine ⟨r, List.replicate (r.length - m.length) 0 ++ pScl m (-(fac r m)), ?_, by omega, ?_, fun x hx => fam.sz _ _ (by omega) (hqr x hx), fun x hx => ?_, ?_⟩
        · rw [rep_lp, show ((r.length : Int) - (m.length : Int)).toNat = r.length - m.length by omega, ← List.map_append]
        · rw [List.length_append, List.length_replicate]
          have := pScl_len m (-(fac r m))
          omega
        · rcases List.mem_append.mp hx with h | h
          · rw [List.eq_of_mem_replicate h]
            exact fam.sz _ _ (Nat.zero_le _) (fam.zero 0)
          · exact pr x h
        · rw [own_step tm h0 z]
      have ix : ixN (q.map qP).length ((r.length : Int) - (m.length : Int)) = some (r.length - m.length) := by
        have := hA.len
        rw [List.length_map, show (r.length : Int) - (m.length : Int) = ((r.length - m.length : Nat) : Int) by omega]
        exact ixN_nat' (by omega)
      repeat ac_rfl
      · rw [List.length_map, rep_lp, List.length_map, List.length_replicate]
        have := pScl_len m (-(fac r m))
        omega
      have le : (trim (dsub r m)).length ≤ r.length - 1 := Nat.le_trans (trim_le _) (by rw [dsub_len]; exact Nat.le_refl _)
      have st : lpD (q.set (r.length - m.length) (fac r m)) = .lst ((q.map qP).set (r.length - m.length) (qP (fac r m))) := congrArg D.lst List.map_set
      exact ⟨(trim (dsub r m)).length, by omega, trim (dsub r m), q.set (r.length - m.length) (fac r m), _, _, rfl, by omega, trim_tr _, hA.step tm h0 z (fun i => cf_trim _ i) le, fun x hx => fam.le (by omega) (fam.dsub (n := l.length - r.length) (by omega) hqr x (trim_mem hx)), by rw [st]⟩
    · intro z
      have z : ¬ m.length ≤ r.length := by have := of_decide_eq_false z; omega
      obtain ⟨e1, e2⟩ := (hA.done tl tm h0 (by omega)).quo tl tm
      have e2 : r = rem l m := by rw [← e2, trim_of tr]
      have tq : S_law_trim [lpD q] (.own (lpD (quo l m))) := ⟨q, rfl, by rw [← e1, trim_of ((hA.done tl tm h0 (by omega)).tq)]⟩
      rw [e2]
      repeat ac_rfl
  · exact ⟨l, List.replicate (l.length + 1 - m.length) 0, .non, .non, rfl, Nat.le_refl _, tl, at_start l m, fun x hx => by rw [Nat.sub_self]; exact hq x hx, rfl⟩
end
section
variable {P : Program} {w : World} {K : PySem.W.Frag} {mg : Str → Option Value} {base : Heap} {f C : Addr} {fd : FuncData}
inductive EucL : List Rat → List Rat → List Rat → Prop
  | done {a : List Rat} (t : Tr a) (hl : a.length ≤ 100) (s : ∀ x ∈ a, Sz 3700 x) (hs : Sz 3700 (1 / hd a)) : EucL a [] (pScl a (1 / hd a))
  | step {a b r : List Rat} (ta : Tr a) (tb : Tr b) (hb : b ≠ []) (la : a.length ≤ 100) (lb : b.length ≤ 100) (fam : ∃ Q, Fam Q b (a.length + 1 - b.length) ∧ ∀ x ∈ a, Q 0 x) (h : EucL b (rem a b) r) : EucL a b r
def S_law_common : List D → Res → Prop := fun ds r => ∃ a b g : List Rat, ds = [lpD a, lpD b] ∧ EucL a b g ∧ b.length ≤ 100 ∧ r = .own (lpD g)
theorem ok_law_common (F : FunG K "_law_common" "_law_common" s_law_common f fd) (c1 : Cal true P w K mg base 4 "_law_divided" (spD K S_law_divided) []) (c2 : Cal true P w K mg base 2 "_law_over" (spD K S_law_over) []) (c3 : Cal true P w K mg base 3 "_law_line_scaled" (spD K S_law_line_scaled) []) : FnB true P w K mg base 5 f fd ["_law_one", "_law_other"] (spD K S_law_common) := by
  refine fnA F cs_law_common (fun ds r ⟨_, _, _, h, _⟩ => by rw [h]; rfl) (fun cdv A outer s H hX nog ds r h => ?_)
  obtain ⟨a, b, g, rfl, he, hb100, rfl⟩ := h
  show PSD _ _ _ [.val _, .val _] _
  repeat ac_rfl
  refine' a_while (fun k ρ' => ∃ (a b : List Rat), k = b.length ∧ EucL a b g ∧ ρ' = [.val (lpD a), .val (lpD b)]) b.length ?_ ?_
  rotate_left
  · rintro k ρ' ⟨a, b, rfl, he, rfl⟩
    refine' ⟨!decide ((b.map qP).length = 0), [.val (lpD a), .val (lpD b)], ?_, ?_, ?_⟩
    · repeat ac_rfl
    · intro z
      have z : b ≠ [] := fun e => by subst e; exact absurd z (by decide)
      have zl := List.length_pos_iff.mpr z
      cases he with
      | done t => exact absurd rfl z
      | step ta tb hb la lb fam h =>
        have u1 : S_law_divided [lpD a, lpD b] (.val (.tup [lpD (quo a b), lpD (rem a b)])) := ⟨a, b, rfl, ta, tb, zl, la, lb, fam, rfl⟩
        have dv := quo_div ta tb zl
        have lt := dv.lt
        repeat ac_rfl
        exact ⟨(rem a b).length, lt, b, rem a b, rfl, h, rfl⟩
    · intro z
      have z : b = [] := by
        cases b with
        | nil => rfl
        | cons a b => exact absurd z (by simp)
      subst z
      cases he with
      | step ta tb hb => exact absurd rfl hb
      | done t hl sz hs =>
        by_cases ne : a = []
        · subst ne
          repeat ac_rfl
        · have zl := List.length_pos_iff.mpr ne
          have c : (!decide ((a.map qP).length = 0)) = true := by
            rw [List.length_map]
            cases a with
            | nil => exact absurd rfl ne
            | cons x y => rfl
          have ixa : atI (a.map qP) (-1) = some (qP (hd a)) := atI_lpO (ixN_last zl) (by omega)
          have sh : Sz 3700 (hd a) := cf_sz sz (hn := by decide) _
          have s1 : Sz 3700 (1 : Rat) := ⟨by unfold Bd; decide, by unfold Bd; decide⟩
          have ov : S_law_over [.tup [.int 1, .int 1], qP (hd a)] (.val (qP (1 / hd a))) := ⟨1, _, rfl, t.resolve_left (by omega), s1, sh, rfl⟩
          have tb : S_law_line_scaled [lpD a, qP (1 / hd a)] (.own (lpD (pScl a (1 / hd a)))) := ⟨a, _, rfl, by omega, sz, hs, rfl⟩
          repeat ac_rfl
  · exact ⟨a, b, rfl, he, rfl⟩
end
end Dn
end
section
set_option Elab.async false
set_option linter.all false
set_option maxRecDepth 100000
set_option maxHeartbeats 4000000
set_option exponentiation.threshold 10000
namespace Dn
open PySem PySem.Spec L2
section
variable {P : Program} {w : World} {K : PySem.W.Frag} {mg : Str → Option Value} {base : Heap} {f C : Addr} {fd : FuncData}
def S_divided (C : Addr) : List D → Res → Prop := fun ds r => ∃ d xs e ys, ds = [d, e] ∧ Giv C d xs ∧ Giv C e ys ∧ trim ys ≠ [] ∧ (∃ Q, Fam Q (trim ys) ((trim xs).length + 1 - (trim ys).length) ∧ ∀ x ∈ trim xs, Q 0 x) ∧ r = .val (.tup [lnD C (quo (trim xs) (trim ys)), lnD C (rem (trim xs) (trim ys))])
theorem ok_divided (F : FunG K "divided" "divided" s_divided f fd) (c1 : Cal false P w K mg base 6 "two_lines" (spD K (S_two_lines C)) []) (c2 : Cal false P w K mg base 5 "line_parts" (spD K (S_line_parts C)) []) (hl : mg "len" = none) : FnB false P w K mg base 7 f fd ["line", "other"] (spD K (S_divided C)) := by
  refine fnA F cs_divided (fun ds r ⟨_, _, _, _, h, _⟩ => by rw [h]; rfl) (fun cdv A outer s H hX nog ds r h => ?_)
  obtain ⟨d, xs, e, ys, rfl, gx, gy, ne, fam, rfl⟩ := h
  have l1 := Nat.le_trans (trim_le xs) gx.len
  have l2 := Nat.le_trans (trim_le ys) gy.len
  have n0 := List.length_pos_iff.mpr ne
  have u1 : S_two_lines C [d, e] (.val (.tup [lnD C (trim xs), lnD C (trim ys)])) := ⟨d, xs, e, ys, rfl, gx, gy, rfl⟩
  have u2 : S_line_parts C [lnD C (trim xs), lnD C (trim ys)] (.val (.tup [lnD C (quo (trim xs) (trim ys)), lnD C (rem (trim xs) (trim ys))])) := ⟨_, _, rfl, trim_tr _, trim_tr _, n0, by omega, by omega, fam, rfl⟩
  have c0 : ¬ ((trim ys).length : Int) = 0 := by omega
  show PSD _ _ _ [.val _, .val _, .non, .non] _
  repeat ac_rfl
def S_common (C : Addr) : List D → Res → Prop := fun ds r => ∃ d xs e ys g, ds = [d, e] ∧ Giv C d xs ∧ Giv C e ys ∧ Euc (trim xs) (trim ys) g ∧ r = .own (lnD C g)
theorem ok_common (F : FunG K "common" "common" s_common f fd) (c1 : Cal false P w K mg base 6 "two_lines" (spD K (S_two_lines C)) []) (c2 : Cal false P w K mg base 6 "line_common" (spD K (S_line_common C)) []) : FnB false P w K mg base 7 f fd ["line", "other"] (spD K (S_common C)) := by
  refine fnA F cs_common (fun ds r ⟨_, _, _, _, _, h, _⟩ => by rw [h]; rfl) (fun cdv A outer s H hX nog ds r h => ?_)
  obtain ⟨d, xs, e, ys, g, rfl, gx, gy, he, rfl⟩ := h
  have l2 := Nat.le_trans (trim_le ys) gy.len
  have u1 : S_two_lines C [d, e] (.val (.tup [lnD C (trim xs), lnD C (trim ys)])) := ⟨d, xs, e, ys, rfl, gx, gy, rfl⟩
  have u2 : S_line_common C [lnD C (trim xs), lnD C (trim ys)] (.own (lnD C g)) := ⟨_, _, g, rfl, he, by omega, rfl⟩
  show PSD _ _ _ [.val _, .val _, .non, .non] _
  repeat ac_rfl
end
end Dn
end
section
set_option Elab.async false
set_option linter.all false
set_option maxRecDepth 100000
set_option maxHeartbeats 4000000
set_option exponentiation.threshold 10000
namespace Dn
open PySem PySem.Spec L2
/-! ### sizes by one common bottom -/
def Cd (β : Nat) (l : List Rat) : Prop := ∃ D : Int, D ≠ 0 ∧ Bd β D ∧ ∀ y ∈ l, ∃ Y : Int, y = Rat.divInt Y D ∧ Bd β Y
theorem di_eq (a b : Int) : Rat.divInt a b = (a : Rat) / (b : Rat) := Rat.divInt_eq_div a b
theorem ic_ne {a : Int} (h : a ≠ 0) : (a : Rat) ≠ 0 := fun e => h (by exact_mod_cast e)
theorem gen_fam {m l : List Rat} {β b N : Nat} (hm : Cd β m) (hl : Cd b l) (h0 : 0 < m.length) (hh : hd m ≠ 0) (hN : b + N * (β + 1) ≤ 3700) (hβ : β ≤ 3700) : ∃ Q, Fam Q m N ∧ (∀ x ∈ l, Q 0 x) ∧ ∀ k : List Rat, (∀ x ∈ k, Q N x) → Cd (b + N * (β + 1)) k := by
  obtain ⟨D', d0, db, hy⟩ := hm
  obtain ⟨D, e0, eb, hx⟩ := hl
  have hmem : hd m ∈ m := by unfold hd; rw [cf_lt (by omega)]; exact List.getElem_mem _
  obtain ⟨h, eh, hb⟩ := hy _ hmem
  have hne : h ≠ 0 := fun z => hh (by rw [eh, z, Rat.zero_divInt])
  have pne : ∀ n : Nat, D * h ^ n ≠ 0 := fun n => Int.mul_ne_zero e0 (Int.pow_ne_zero hne)
  have pbd : ∀ n : Nat, Bd (b + n * β) (D * h ^ n) := fun n => by
    induction n with
    | zero =>
      rw [Int.pow_zero, Int.mul_one, Nat.zero_mul]
      exact eb
    | succ n ih =>
      rw [Int.pow_succ, Nat.succ_mul, ← Int.mul_assoc, ← Nat.add_assoc]
      exact ih.mul hb
  have hr := ic_ne hne
  have dr := ic_ne d0
  have pr : ∀ n : Nat, ((D * h ^ n : Int) : Rat) ≠ 0 := fun n => ic_ne (pne n)
  have ps : ∀ n : Nat, ((D * h ^ (n + 1) : Int) : Rat) = ((D * h ^ n : Int) : Rat) * (h : Rat) := fun n => by
    rw [Int.pow_succ, ← Int.mul_assoc, Rat.intCast_mul]
  refine ⟨fun n x => ∃ z : Int, x = Rat.divInt z (D * h ^ n) ∧ Bd (b + n * (β + 1)) z, ⟨fun n => ?_, fun n x q => ?_, fun n x hn q => ?_, fun n x hn q => ?_, fun n a c y hn qa qc hy' => ?_, fun n c y hn qc hy' => ?_, fun y hy' => ?_⟩, fun x hx' => ?_, fun k hk => ?_⟩
  · exact ⟨0, by rw [Rat.zero_divInt], by unfold Bd; exact Nat.pow_pos (by decide)⟩
  · obtain ⟨z, rfl, hz⟩ := q
    refine ⟨z * h, ?_, (hz.mul hb).mono (by rw [Nat.succ_mul]; omega)⟩
    have := pr n
    rw [di_eq, di_eq, ps, Rat.intCast_mul]
    grind
  · obtain ⟨z, rfl, hz⟩ := q
    have : n * (β + 1) ≤ N * (β + 1) := Nat.mul_le_mul_right _ hn
    have : n * β ≤ n * (β + 1) := Nat.mul_le_mul_left _ (by omega)
    exact sz_divInt (pne n) (hz.mono (by omega)) ((pbd n).mono (by omega))
  · obtain ⟨z, rfl, hz⟩ := q
    refine ⟨z * D', ?_, (hz.mul db).mono (by rw [Nat.succ_mul]; omega)⟩
    have := pr n
    rw [eh, di_eq, di_eq, di_eq, ps, Rat.intCast_mul]
    grind
  · obtain ⟨za, rfl, ha⟩ := qa
    obtain ⟨zc, rfl, hc⟩ := qc
    obtain ⟨Y, rfl, hY⟩ := hy y hy'
    refine ⟨za * h + -(zc * Y), ?_, ((ha.mul hb).add (hc.mul hY).neg).mono (by rw [Nat.succ_mul]; omega)⟩
    have := pr n
    rw [eh, di_eq, di_eq, di_eq, di_eq, di_eq, ps, Rat.intCast_add, Rat.intCast_mul, Rat.intCast_neg, Rat.intCast_mul]
    grind
  · obtain ⟨zc, rfl, hc⟩ := qc
    obtain ⟨Y, rfl, hY⟩ := hy y hy'
    have e : Rat.divInt zc (D * h ^ n) / hd m * Rat.divInt Y D' = Rat.divInt (zc * Y) (D * h ^ (n + 1)) := by
      have := pr n
      rw [eh, di_eq, di_eq, di_eq, di_eq, ps, Rat.intCast_mul]
      grind
    rw [e]
    have h1 : (n + 1) * (β + 1) ≤ N * (β + 1) := Nat.mul_le_mul_right _ hn
    have h2 : (n + 1) * β ≤ (n + 1) * (β + 1) := Nat.mul_le_mul_left _ (by omega)
    have h3 : (n + 1) * (β + 1) = n * (β + 1) + (β + 1) := Nat.succ_mul _ _
    exact sz_divInt (pne (n + 1)) ((hc.mul hY).mono (by omega)) ((pbd (n + 1)).mono (by omega))
  · obtain ⟨Y, rfl, hY⟩ := hy y hy'
    exact sz_divInt d0 (hY.mono hβ) (db.mono hβ)
  · obtain ⟨Y, rfl, hY⟩ := hx x hx'
    refine ⟨Y, by rw [Int.pow_zero, Int.mul_one], by rw [Nat.zero_mul]; exact hY⟩
  · have : N * β ≤ N * (β + 1) := Nat.mul_le_mul_left _ (by omega)
    exact ⟨D * h ^ N, pne N, (pbd N).mono (by omega), hk⟩
theorem gen_fam2 {m l : List Rat} {β b N d : Nat} {D : Int} (hm : Cd β m) (e0 : D ≠ 0) (eb2 : Bd d D) (hdb : d ≤ b) (hx : ∀ y ∈ l, ∃ Y : Int, y = Rat.divInt Y D ∧ Bd b Y) (h0 : 0 < m.length) (hh : hd m ≠ 0) (hN : b + N * (β + 1) ≤ 3700) (hβ : β ≤ 3700) : ∃ (Q : Nat → Rat → Prop) (L : Int), Fam Q m N ∧ (∀ x ∈ l, Q 0 x) ∧ L ≠ 0 ∧ Bd (d + N * β) L ∧ ∀ k : List Rat, (∀ x ∈ k, Q N x) → ∀ y ∈ k, ∃ z : Int, y = Rat.divInt z L ∧ Bd (b + N * (β + 1)) z := by
  obtain ⟨D', d0, db, hy⟩ := hm
  have eb : Bd b D := eb2.mono hdb
  have hmem : hd m ∈ m := by unfold hd; rw [cf_lt (by omega)]; exact List.getElem_mem _
  obtain ⟨h, eh, hb⟩ := hy _ hmem
  have hne : h ≠ 0 := fun z => hh (by rw [eh, z, Rat.zero_divInt])
  have pne : ∀ n : Nat, D * h ^ n ≠ 0 := fun n => Int.mul_ne_zero e0 (Int.pow_ne_zero hne)
  have pbd : ∀ n : Nat, Bd (b + n * β) (D * h ^ n) := fun n => by
    induction n with
    | zero =>
      rw [Int.pow_zero, Int.mul_one, Nat.zero_mul]
      exact eb
    | succ n ih =>
      rw [Int.pow_succ, Nat.succ_mul, ← Int.mul_assoc, ← Nat.add_assoc]
      exact ih.mul hb
  have pbd2 : ∀ n : Nat, Bd (d + n * β) (D * h ^ n) := fun n => by
    induction n with
    | zero =>
      rw [Int.pow_zero, Int.mul_one, Nat.zero_mul]
      exact eb2
    | succ n ih =>
      rw [Int.pow_succ, Nat.succ_mul, ← Int.mul_assoc, ← Nat.add_assoc]
      exact ih.mul hb
  have hr := ic_ne hne
  have dr := ic_ne d0
  have pr : ∀ n : Nat, ((D * h ^ n : Int) : Rat) ≠ 0 := fun n => ic_ne (pne n)
  have ps : ∀ n : Nat, ((D * h ^ (n + 1) : Int) : Rat) = ((D * h ^ n : Int) : Rat) * (h : Rat) := fun n => by
    rw [Int.pow_succ, ← Int.mul_assoc, Rat.intCast_mul]
  refine ⟨fun n x => ∃ z : Int, x = Rat.divInt z (D * h ^ n) ∧ Bd (b + n * (β + 1)) z, D * h ^ N, ⟨fun n => ?_, fun n x q => ?_, fun n x hn q => ?_, fun n x hn q => ?_, fun n a c y hn qa qc hy' => ?_, fun n c y hn qc hy' => ?_, fun y hy' => ?_⟩, fun x hx' => ?_, pne N, pbd2 N, fun k hk => hk⟩
  · exact ⟨0, by rw [Rat.zero_divInt], by unfold Bd; exact Nat.pow_pos (by decide)⟩
  · obtain ⟨z, rfl, hz⟩ := q
    refine ⟨z * h, ?_, (hz.mul hb).mono (by rw [Nat.succ_mul]; omega)⟩
    have := pr n
    rw [di_eq, di_eq, ps, Rat.intCast_mul]
    grind
  · obtain ⟨z, rfl, hz⟩ := q
    have : n * (β + 1) ≤ N * (β + 1) := Nat.mul_le_mul_right _ hn
    have : n * β ≤ n * (β + 1) := Nat.mul_le_mul_left _ (by omega)
    exact sz_divInt (pne n) (hz.mono (by omega)) ((pbd n).mono (by omega))
  · obtain ⟨z, rfl, hz⟩ := q
    refine ⟨z * D', ?_, (hz.mul db).mono (by rw [Nat.succ_mul]; omega)⟩
    have := pr n
    rw [eh, di_eq, di_eq, di_eq, ps, Rat.intCast_mul]
    grind
  · obtain ⟨za, rfl, ha⟩ := qa
    obtain ⟨zc, rfl, hc⟩ := qc
    obtain ⟨Y, rfl, hY⟩ := hy y hy'
    refine ⟨za * h + -(zc * Y), ?_, ((ha.mul hb).add (hc.mul hY).neg).mono (by rw [Nat.succ_mul]; omega)⟩
    have := pr n
    rw [eh, di_eq, di_eq, di_eq, di_eq, di_eq, ps, Rat.intCast_add, Rat.intCast_mul, Rat.intCast_neg, Rat.intCast_mul]
    grind
  · obtain ⟨zc, rfl, hc⟩ := qc
    obtain ⟨Y, rfl, hY⟩ := hy y hy'
    have e : Rat.divInt zc (D * h ^ n) / hd m * Rat.divInt Y D' = Rat.divInt (zc * Y) (D * h ^ (n + 1)) := by
      have := pr n
      rw [eh, di_eq, di_eq, di_eq, di_eq, ps, Rat.intCast_mul]
      grind
    rw [e]
    have h1 : (n + 1) * (β + 1) ≤ N * (β + 1) := Nat.mul_le_mul_right _ hn
    have h2 : (n + 1) * β ≤ (n + 1) * (β + 1) := Nat.mul_le_mul_left _ (by omega)
    have h3 : (n + 1) * (β + 1) = n * (β + 1) + (β + 1) := Nat.succ_mul _ _
    exact sz_divInt (pne (n + 1)) ((hc.mul hY).mono (by omega)) ((pbd (n + 1)).mono (by omega))
  · obtain ⟨Y, rfl, hY⟩ := hy y hy'
    exact sz_divInt d0 (hY.mono hβ) (db.mono hβ)
  · obtain ⟨Y, rfl, hY⟩ := hx x hx'
    refine ⟨Y, by rw [Int.pow_zero, Int.mul_one], by rw [Nat.zero_mul]; exact hY⟩
theorem fam_pD {Q : Nat → Rat → Prop} {m : List Rat} {N : Nat} (fam : Fam Q m N) (h0 : 0 < m.length) : ∀ (n : Nat) (q r : List Rat) (a : Nat), a + (r.length + 1 - m.length) ≤ N → (∀ x ∈ q, Q N x) → (∀ x ∈ r, Q a x) → (∀ x ∈ (pD m n q r).1, Q N x) ∧ ∀ x ∈ (pD m n q r).2, Q N x
  | 0, q, r, a, h, hq, hr => ⟨hq, fun x hx => fam.le (by omega) (hr x hx)⟩
  | n + 1, q, r, a, h, hq, hr => by
    rw [show pD m (n + 1) q r = if m.length ≤ r.length then pD m n (q.set (r.length - m.length) (fac r m)) (trim (dsub r m)) else (q, r) from rfl]
    by_cases c : m.length ≤ r.length
    · rw [if_pos c]
      have le : (trim (dsub r m)).length ≤ r.length - 1 := Nat.le_trans (trim_le _) (by rw [dsub_len]; exact Nat.le_refl _)
      refine fam_pD fam h0 n _ _ (a + 1) (by omega) (fun x hx => ?_) (fun x hx => fam.dsub (n := a) (by omega) hr x (trim_mem hx))
      rcases List.mem_or_eq_of_mem_set hx with h' | h'
      · exact hq x h'
      · rw [h']
        exact fam.le (a := a + 1) (by omega) (fam.div a _ (by omega) (fam.cf hr _))
    · rw [if_neg c]
      exact ⟨hq, fun x hx => fam.le (by omega) (hr x hx)⟩
theorem fam_both {Q : Nat → Rat → Prop} {m : List Rat} {N : Nat} (fam : Fam Q m N) (h0 : 0 < m.length) {l : List Rat} (h : l.length + 1 - m.length ≤ N) (hl : ∀ x ∈ l, Q 0 x) : (∀ x ∈ quo l m, Q N x) ∧ ∀ x ∈ rem l m, Q N x :=
  fam_pD fam h0 _ _ _ 0 (by omega) (fun x hx => by rw [List.eq_of_mem_replicate hx]; exact fam.zero _) hl
theorem fam_down {Q : Nat → Rat → Prop} {m : List Rat} {N M : Nat} (fam : Fam Q m N) (h : M ≤ N) : Fam Q m M :=
  ⟨fam.zero, fam.up, fun n x hn q => fam.sz n x (by omega) q, fun n x hn q => fam.div n x (by omega) q, fun n x c y hn q1 q2 hy => fam.sub n _ _ _ (by omega) q1 q2 hy, fun n c y hn q hy => fam.pr n _ _ (by omega) q hy, fam.ms⟩
end Dn
end
section
set_option Elab.async false
set_option linter.all false
set_option maxRecDepth 100000
set_option maxHeartbeats 4000000
set_option exponentiation.threshold 10000
namespace Dn
open PySem PySem.Spec L2
theorem tr_ev0 {l : List Rat} (t : Tr l) (h : ∀ x, ev l x = 0) : l = [] := ev_ext t tr_nil fun x => by rw [h, ev_nil]
theorem ev_led (l : List Rat) (x : Rat) : ev (led l) x = ev l x * (hd l)⁻¹ := by
  have h : ∀ (k : List Rat) (c : Rat), ev (k.map fun y => y / c) x = ev k x * c⁻¹ := fun k c => by
    induction k with
    | nil => rw [List.map_nil, ev_nil, Rat.zero_mul]
    | cons y k ih =>
      rw [List.map_cons, ev_cons, ev_cons, ih, Rat.div_def]
      grind
  exact h l (hd l)
theorem led_scl {l : List Rat} (t : Tr l) {c : Rat} (hc : c ≠ 0) (ne : l ≠ []) : led (pScl l c) = led l := by
  have z0 := List.length_pos_iff.mpr ne
  have hne : hd l ≠ 0 := t.resolve_left (by omega)
  have e : pScl l c = l.map (· * c) := by
    rw [← trim_map_scl]
    refine trim_of (.inr ?_)
    rw [List.length_map, cf_lt (by rw [List.length_map]; omega), List.getElem_map, ← cf_lt (l := l) (by omega)]
    exact fun z => by
      rcases Rat.mul_eq_zero.mp z with z | z
      · exact hne z
      · exact hc z
  have eh : hd (pScl l c) = hd l * c := by
    rw [e]
    unfold hd
    rw [List.length_map, cf_lt (by rw [List.length_map]; omega), List.getElem_map, ← cf_lt (l := l) (by omega)]
  refine ev_ext (led_tr (pScl_tr _ _)) (led_tr t) fun x => ?_
  rw [ev_led, ev_led, eh, ev_pScl]
  grind
theorem hd_led {l : List Rat} (t : Tr l) (ne : l ≠ []) : hd (led l) = 1 := by
  have z0 := List.length_pos_iff.mpr ne
  have hne : hd l ≠ 0 := t.resolve_left (by omega)
  have e : hd (led l) = hd l / hd l := by
    unfold hd
    rw [led_len, cf_lt (by rw [led_len]; omega)]
    unfold led
    rw [List.getElem_map]
    rw [← cf_lt (l := l) (by omega)]
    rfl
  rw [e, Rat.div_def, Rat.mul_inv_cancel _ hne]
theorem rem_eq {a b q r : List Rat} (ta : Tr a) (tb : Tr b) (tq : Tr q) (tr : Tr r) (lt : r.length < b.length) (h : ∀ x, ev a x = ev q x * ev b x + ev r x) : rem a b = r := by
  have e : a = pAdd (pMul q b) r := ev_ext ta (pAdd_tr _ _) fun x => by rw [ev_pAdd, ev_pMul, h]
  have d : IsDiv a b q r := ⟨tq, tr, lt, fun i => by rw [e, cf_pAdd, cf_pMul]⟩
  exact (d.quo ta tb).2.symm
theorem Cd.sz {β n : Nat} {l : List Rat} (h : Cd β l) (hn : β ≤ n) : ∀ x ∈ l, Sz n x := fun x hx => by
  obtain ⟨D, d0, db, hy⟩ := h
  obtain ⟨Y, rfl, hY⟩ := hy x hx
  exact sz_divInt d0 (hY.mono hn) (db.mono hn)
theorem Cd.led {β : Nat} {l : List Rat} (h : Cd β l) (t : Tr l) (ne : l ≠ []) : Cd β (Dn.led l) := by
  have z0 := List.length_pos_iff.mpr ne
  have hne : hd l ≠ 0 := t.resolve_left (by omega)
  obtain ⟨D, d0, db, hy⟩ := h
  have hmem : hd l ∈ l := by unfold hd; rw [cf_lt (by omega)]; exact List.getElem_mem _
  obtain ⟨H, eH, hH⟩ := hy _ hmem
  have H0 : H ≠ 0 := fun z => hne (by rw [eH, z, Rat.zero_divInt])
  refine ⟨H, H0, hH, fun y hy' => ?_⟩
  unfold Dn.led at hy'
  obtain ⟨x, hx, rfl⟩ := List.mem_map.mp hy'
  obtain ⟨Y, rfl, hY⟩ := hy x hx
  refine ⟨Y, ?_, hY⟩
  have := ic_ne d0
  have := ic_ne H0
  rw [eH, di_eq, di_eq, di_eq]
  grind
theorem ev_hd {l : List Rat} (t : Tr l) (ne : l ≠ []) (x : Rat) : ev l x = hd l * ev (led l) x := by
  have z0 := List.length_pos_iff.mpr ne
  have hne : hd l ≠ 0 := t.resolve_left (by omega)
  rw [ev_led]
  grind
theorem cd_qb {β : Nat} {l : List Rat} (h : ∀ x ∈ l, Qb 1 β x) (h3 : 3 ≤ β) : Cd β l := ⟨6, by decide, Bd.mono (m := 3) (by unfold Bd; decide) h3, fun y hy => by
  obtain ⟨z, e, hz⟩ := h y hy
  exact ⟨z, e, hz⟩⟩
/-! ### the common part of two lines -/
def Goes (g a : List Rat) : Prop := ∃ q, ∀ x, ev a x = ev q x * ev g x
structure Gcd (a b g : List Rat) : Prop where
  t : Tr g
  m : g = [] ∨ hd g = 1
  da : Goes g a
  db : Goes g b
  l : ∃ u v, ∀ x, ev g x = ev u x * ev a x + ev v x * ev b x
theorem Gcd.symm {a b g : List Rat} (h : Gcd a b g) : Gcd b a g := by
  obtain ⟨t, m, da, db, u, v, e⟩ := h
  exact ⟨t, m, db, da, v, u, fun x => by rw [e]; grind⟩
theorem Goes.rem {g a : List Rat} (h : Goes g a) (ta : Tr a) (tg : Tr g) (ne : g ≠ []) : Dn.rem a g = [] := by
  obtain ⟨q, e⟩ := h
  exact rem_eq (q := trim q) ta tg (trim_tr _) tr_nil (List.length_pos_iff.mpr ne) fun x => by rw [e, ev_trim, ev_nil]; grind
theorem Goes.len {g a : List Rat} (h : Goes g a) (ta : Tr a) (tg : Tr g) (ne : a ≠ []) : g.length ≤ a.length := by
  by_cases c : g.length ≤ a.length
  · exact c
  · exfalso
    have ng : g ≠ [] := fun e => by subst e; exact c (Nat.zero_le _)
    have r0 := h.rem ta tg ng
    have r1 : Dn.rem a g = a := rem_eq (q := []) ta tg tr_nil ta (by omega) fun x => by rw [ev_nil]; grind
    exact ne (r1.symm.trans r0)
theorem Goes.trans {g h a : List Rat} (p : Goes g h) (q : Goes h a) : Goes g a := by
  obtain ⟨u, e⟩ := p
  obtain ⟨v, f⟩ := q
  exact ⟨pMul v u, fun x => by rw [f, e, ev_pMul]; grind⟩
theorem goes_nil {a : List Rat} (ta : Tr a) (h : Goes [] a) : a = [] := by
  obtain ⟨u, e⟩ := h
  exact tr_ev0 ta fun x => by rw [e, ev_nil, Rat.mul_zero]
theorem goes_eq {g h : List Rat} (tg : Tr g) (th : Tr h) (mg : g = [] ∨ hd g = 1) (mh : h = [] ∨ hd h = 1) (p : Goes g h) (q : Goes h g) : g = h := by
  by_cases eg : g = []
  · rw [eg]; rw [eg] at p; exact (goes_nil th p).symm
  by_cases eh : h = []
  · rw [eh] at q; exact absurd (goes_nil tg q) eg
  have l : g.length = h.length := Nat.le_antisymm (p.len th tg eh) (q.len tg th eg)
  have g0 := List.length_pos_iff.mpr eg
  have z : pAdd h (pScl g (-1)) = [] := by
    have lt : (pAdd h (pScl g (-1))).length < g.length := by
      refine Nat.lt_of_le_of_lt (m := g.length - 1) ?_ (by omega)
      refine Nat.le_trans (tr_len (m := ofF (g.length - 1) (cf (pAdd h (pScl g (-1))))) (pAdd_tr _ _) fun i => ?_) (by rw [ofF_len]; exact Nat.le_refl _)
      rw [cf_ofF]
      split
      · rfl
      rw [cf_pAdd, cf_pScl]
      by_cases c : i = g.length - 1
      · have h1 : cf g i = 1 := by rw [c]; exact mg.resolve_left eg
        have h2 : cf h i = 1 := by rw [c, l]; exact mh.resolve_left eh
        rw [h1, h2]; decide +kernel
      · rw [cf_ge (l := h) (by omega), cf_ge (l := g) (by omega)]; decide +kernel
    obtain ⟨u, e⟩ := p
    have d : Goes g (pAdd h (pScl g (-1))) := ⟨pAdd u [-1], fun x => by rw [ev_pAdd, ev_pScl, ev_pAdd, e, ev_cons, ev_nil]; grind⟩
    have r0 := d.rem (pAdd_tr _ _) tg eg
    have r1 : Dn.rem (pAdd h (pScl g (-1))) g = pAdd h (pScl g (-1)) := rem_eq (q := []) (pAdd_tr _ _) tg tr_nil (pAdd_tr _ _) lt fun x => by rw [ev_nil]; grind
    exact r1.symm.trans r0
  refine ev_ext tg th fun x => ?_
  have : ev (pAdd h (pScl g (-1))) x = ev [] x := by rw [z]
  rw [ev_pAdd, ev_pScl, ev_nil] at this
  grind
theorem Gcd.goes {a b g h : List Rat} (p : Gcd a b g) (ha : Goes h a) (hb : Goes h b) : Goes h g := by
  obtain ⟨u, v, e⟩ := p.l
  obtain ⟨s, es⟩ := ha
  obtain ⟨t, et⟩ := hb
  exact ⟨pAdd (pMul u s) (pMul v t), fun x => by rw [e, es, et, ev_pAdd, ev_pMul, ev_pMul]; grind⟩
theorem Gcd.uniq {a b g h : List Rat} (p : Gcd a b g) (q : Gcd a b h) : g = h :=
  goes_eq p.t q.t p.m q.m (q.goes p.da p.db) (p.goes q.da q.db)
theorem gcd_nil {a : List Rat} (t : Tr a) : Gcd a [] (led a) := by
  by_cases e : a = []
  · subst e
    exact ⟨tr_nil, .inl rfl, ⟨[], fun x => by rw [ev_nil]; grind⟩, ⟨[], fun x => by rw [ev_nil]; grind⟩, [], [], fun x => by rw [show led [] = [] from rfl, ev_nil]; grind⟩
  · exact ⟨led_tr t, .inr (hd_led t e), ⟨[hd a], fun x => by rw [ev_cons, ev_nil, ev_hd t e]; grind⟩, ⟨[], fun x => by rw [ev_nil]; grind⟩, [(hd a)⁻¹], [], fun x => by rw [ev_led, ev_cons, ev_nil]; grind⟩
/-- one step: r' is the rest times a number -/
theorem gcdl_step {a b q r r' g : List Rat} {κ : Rat} (e : ∀ x, ev a x = ev q x * ev b x + ev r x) (hκ : κ ≠ 0) (er : ∀ x, ev r' x = κ * ev r x) (h : Gcd b r' g) : Gcd a b g := by
  obtain ⟨t, m, ⟨s, es⟩, ⟨s', es'⟩, u, v, el⟩ := h
  refine ⟨t, m, ⟨pAdd (pMul q s) (pScl s' κ⁻¹), fun x => ?_⟩, ⟨s, es⟩, pScl v κ, pAdd u (pScl (pMul v q) (-κ)), fun x => ?_⟩
  · have : ev r x = κ⁻¹ * ev r' x := by rw [er, ← Rat.mul_assoc, Rat.inv_mul_cancel _ hκ, Rat.one_mul]
    rw [e, this, es, es', ev_pAdd, ev_pMul, ev_pScl]
    grind
  · rw [el, er, ev_pScl, ev_pAdd, ev_pScl, ev_pMul, e]
    grind
theorem led_ev {r : List Rat} (t : Tr r) : ∃ κ : Rat, κ ≠ 0 ∧ ∀ x, ev (led r) x = κ * ev r x := by
  by_cases e : r = []
  · subst e; exact ⟨1, by decide, fun x => by rw [show led [] = [] from rfl, ev_nil]; grind⟩
  · have hne : hd r ≠ 0 := t.resolve_left (by have := List.length_pos_iff.mpr e; omega)
    exact ⟨(hd r)⁻¹, fun z => by have := Rat.mul_inv_cancel _ hne; rw [z, Rat.mul_zero] at this; exact absurd this (by decide), fun x => by rw [ev_led]; grind⟩
end Dn
end
section
set_option Elab.async false
set_option linter.all false
set_option maxRecDepth 100000
set_option maxHeartbeats 4000000
set_option exponentiation.threshold 10000
namespace Dn
open PySem PySem.Spec L2
/-! ### sizes of products by common bottoms -/
theorem conv_cd {D E : Int} (d0 : D ≠ 0) (e0 : E ≠ 0) {m n L : Nat} : ∀ (f g : Cf) (i : Nat), (∀ j, ∃ Y : Int, f j = Rat.divInt Y D ∧ Bd m Y) → (∀ j, ∃ Y : Int, g j = Rat.divInt Y E ∧ Bd n Y) → (∀ j, L ≤ j → g j = 0) → ∃ z : Int, conv f g i = Rat.divInt z (D * E) ∧ z.natAbs + min (i + 1) L ≤ min (i + 1) L * 2 ^ (m + n)
  | f, g, 0, hf, hg, h0 => by
    by_cases z : L = 0
    · refine ⟨0, ?_, by rw [z]; simp⟩
      show f 0 * g 0 = _
      rw [h0 0 (by omega), Rat.mul_zero, Rat.zero_divInt]
    · obtain ⟨y1, h1, h2⟩ := hf 0
      obtain ⟨y2, h3, h4⟩ := hg 0
      refine ⟨y1 * y2, by show f 0 * g 0 = _; rw [h1, h3, Rat.divInt_mul_divInt], ?_⟩
      have h5 := h2.mul h4
      unfold Bd at h5
      have : min (0 + 1) L = 1 := by omega
      rw [this]
      omega
  | f, g, i + 1, hf, hg, h0 => by
    obtain ⟨y, h3, h4⟩ := conv_cd d0 e0 (sh f) g i (fun j => hf (j + 1)) hg h0
    by_cases z : L ≤ i + 1
    · refine ⟨y, ?_, by
        have e1 : min (i + 1) L = L := by omega
        have e2 : min (i + 1 + 1) L = L := by omega
        rw [e1] at h4
        rw [e2]
        exact h4⟩
      show f 0 * g (i + 1) + conv (sh f) g i = _
      rw [h0 _ z, Rat.mul_zero, Rat.zero_add, h3]
    · obtain ⟨y1, h1, h2⟩ := hf 0
      obtain ⟨y2, h5, h6⟩ := hg (i + 1)
      refine ⟨y1 * y2 + y, ?_, ?_⟩
      · show f 0 * g (i + 1) + conv (sh f) g i = _
        rw [h1, h3, h5, Rat.divInt_mul_divInt, divInt_add' _ _ _ (Int.mul_ne_zero d0 e0)]
      · have := Int.natAbs_add_le (y1 * y2) y
        have h7 := h2.mul h6
        unfold Bd at h7
        have e1 : min (i + 1) L = i + 1 := by omega
        have e2 : min (i + 1 + 1) L = i + 1 + 1 := by omega
        rw [e1] at h4
        rw [e2, Nat.succ_mul (i + 1)]
        omega
theorem Cd.cf {β : Nat} {l : List Rat} {D : Int} (h : ∀ y ∈ l, ∃ Y : Int, y = Rat.divInt Y D ∧ Bd β Y) (j : Nat) : ∃ Y : Int, Dn.cf l j = Rat.divInt Y D ∧ Bd β Y := by
  by_cases c : j < l.length
  · exact h _ (by rw [cf_lt c]; exact List.getElem_mem _)
  · exact ⟨0, by rw [cf_ge (by omega), Rat.zero_divInt], by unfold Bd; exact Nat.pow_pos (by decide)⟩
theorem cd_pMul {β e : Nat} {a s : List Rat} (ha : Cd β a) (hs : Cd e s) (h4 : s.length ≤ 4) : Cd (β + e + 2) (pMul a s) := by
  obtain ⟨D, d0, db, hy⟩ := ha
  obtain ⟨E, e0, eb, hz⟩ := hs
  refine ⟨D * E, Int.mul_ne_zero d0 e0, (db.mul eb).mono (by omega), fun x hx => ?_⟩
  obtain ⟨i, hi, rfl⟩ := ofF_mem (trim_mem hx)
  obtain ⟨z, h1, h2⟩ := conv_cd d0 e0 (L := s.length) _ _ i (Cd.cf hy) (Cd.cf hz) (fun j hj => cf_ge hj)
  refine ⟨z, h1, ?_⟩
  unfold Bd
  have a : min (i + 1) s.length * 2 ^ (β + e) ≤ 4 * 2 ^ (β + e) := Nat.mul_le_mul_right _ (by omega)
  have b : 2 ^ (β + e + 2) = 4 * 2 ^ (β + e) := by rw [Nat.pow_add, Nat.mul_comm]
  have c : 0 < 4 * 2 ^ (β + e) := Nat.mul_pos (by decide) (Nat.pow_pos (by decide))
  rw [b]
  by_cases z0 : min (i + 1) s.length = 0
  · rw [z0] at h2
    omega
  · omega
theorem Cd.mono {β γ : Nat} {l : List Rat} (h : Cd β l) (e : β ≤ γ) : Cd γ l := by
  obtain ⟨D, d0, db, hy⟩ := h
  exact ⟨D, d0, db.mono e, fun y hy' => by
    obtain ⟨Y, h1, h2⟩ := hy y hy'
    exact ⟨Y, h1, h2.mono e⟩⟩
theorem Cd.inv {β : Nat} {l : List Rat} (h : Cd β l) (hl : l ≠ []) (t : Tr l) (n : Nat) (hn : β ≤ n) : Sz n (1 / hd l) := by
  have z0 := List.length_pos_iff.mpr hl
  have hne : hd l ≠ 0 := t.resolve_left (by omega)
  obtain ⟨D, d0, db, hy⟩ := h
  have hmem : hd l ∈ l := by unfold hd; rw [cf_lt (by omega)]; exact List.getElem_mem _
  obtain ⟨H, eH, hH⟩ := hy _ hmem
  have H0 : H ≠ 0 := fun z => hne (by rw [eH, z, Rat.zero_divInt])
  have e : 1 / hd l = Rat.divInt D H := by
    have := ic_ne d0
    have := ic_ne H0
    rw [eH, di_eq, di_eq]
    grind
  rw [e]
  exact sz_divInt H0 (db.mono hn) (hH.mono hn)
/-! ### products of lines whose last number is 1 -/
theorem hd_pMul {l m : List Rat} (tl : Tr l) (tm : Tr m) (h1 : l ≠ []) (h2 : m ≠ []) : hd (pMul l m) = hd l * hd m := by
  have a := List.length_pos_iff.mpr h1
  have b := List.length_pos_iff.mpr h2
  unfold hd
  rw [pMul_top tl tm a b, show l.length + m.length - 1 - 1 = (l.length - 1) + (m.length - 1) by omega, cf_pMul]
  exact conv_top _ _ _ _ (fun i hi => cf_ge (by omega)) (fun i hi => cf_ge (by omega))
theorem led_mon {l : List Rat} (t : Tr l) (h : hd l = 1) : led l = l := ev_ext (led_tr t) t fun x => by rw [ev_led, h]; grind
theorem pMul_ne {l m : List Rat} (tl : Tr l) (tm : Tr m) (h1 : l ≠ []) (h2 : m ≠ []) : pMul l m ≠ [] := fun e => by
  have a := List.length_pos_iff.mpr h1
  have b := List.length_pos_iff.mpr h2
  have := pMul_top tl tm a b
  rw [e] at this
  simp at this
  omega
theorem led_prod {a s : List Rat} {κ : Rat} (ta : Tr a) (ts : Tr s) (s0 : s ≠ []) (s1 : hd s = 1) (hκ : κ ≠ 0) : led (pScl (pMul a s) κ) = pMul (led a) s := by
  by_cases e : a = []
  · subst e
    have : pScl (pMul [] s) κ = [] := tr_ev0 (pScl_tr _ _) fun x => by rw [ev_pScl, ev_pMul, ev_nil]; grind
    rw [this, show led [] = [] from rfl]
    exact (tr_ev0 (pMul_tr _ _) fun x => by rw [ev_pMul, ev_nil]; grind).symm
  · have hne : hd a ≠ 0 := ta.resolve_left (by have := List.length_pos_iff.mpr e; omega)
    have la : led a ≠ [] := fun z => e (List.length_eq_zero_iff.mp (by rw [← led_len, z]; rfl))
    have e1 : pScl (pMul a s) κ = pScl (pMul (led a) s) (hd a * κ) := ev_ext (pScl_tr _ _) (pScl_tr _ _) fun x => by
      rw [ev_pScl, ev_pMul, ev_pScl, ev_pMul, ev_led]
      grind
    have hc : hd a * κ ≠ 0 := fun z => (Rat.mul_eq_zero.mp z).elim hne hκ
    rw [e1, led_scl (pMul_tr _ _) hc (pMul_ne (led_tr ta) ts la s0)]
    exact led_mon (pMul_tr _ _) (by rw [hd_pMul (led_tr ta) ts la s0, hd_led ta e, s1, Rat.mul_one])
theorem scl_len {s : List Rat} {κ : Rat} (ts : Tr s) (hκ : κ ≠ 0) : (pScl s κ).length = s.length := by
  by_cases e : s = []
  · subst e; exact Nat.le_zero.mp (pScl_len _ _)
  · refine Nat.le_antisymm (pScl_len _ _) ?_
    have g : Goes s (pScl s κ) := ⟨[κ], fun x => by rw [ev_pScl, ev_cons, ev_nil]; grind⟩
    refine g.len (pScl_tr _ _) ts fun z => e (tr_ev0 ts fun x => ?_)
    have : ev (pScl s κ) x = ev [] x := by rw [z]
    rw [ev_pScl, ev_nil] at this
    exact (Rat.mul_eq_zero.mp this).resolve_right hκ
/-! ### the chain of rests, for all products at once -/
structure ChR (s a c g : List Rat) : Prop where
  gcd : Gcd a c g
  own : EucL a c g
  cd : ∃ B, Cd B g ∧ B ≤ 1800 ∧ (2 ≤ g.length → 6 + (10 - g.length) * (B + 1) ≤ 3700)
  all : ∀ (s1 s2 : List Rat) (κ1 κ2 : Rat), κ1 ≠ 0 → κ2 ≠ 0 → s1 = pScl s κ1 → s2 = pScl s κ2 → Cd 6 s1 → Cd 6 s2 → Euc (pMul a s1) (pMul c s2) (pMul g s)
theorem pMul_scl (a s : List Rat) (κ : Rat) : pMul a (pScl s κ) = pScl (pMul a s) κ := ev_ext (pMul_tr _ _) (pScl_tr _ _) fun x => by
  rw [ev_pMul, ev_pScl, ev_pScl, ev_pMul]; grind
theorem ch_base {s a : List Rat} {b : Nat} (ts : Tr s) (s0 : s ≠ []) (s1 : hd s = 1) (s4 : s.length ≤ 4) (ta : Tr a) (ha : Cd b a) (hb : b ≤ 1800) (h2 : 2 ≤ a.length → 6 + (10 - a.length) * (b + 1) ≤ 3700) (hl : a.length ≤ 90) : ChR s a [] (led a) := by
  refine ⟨gcd_nil ta, ?_, ⟨b, ?_, hb, by rw [led_len]; exact h2⟩, fun s1' s2' κ1 κ2 k1 k2 e1 e2 c1 c2 => ?_⟩
  · have e : led a = pScl a (1 / hd a) := ev_ext (led_tr ta) (pScl_tr _ _) fun x => by rw [ev_led, ev_pScl]; grind
    rw [e]
    refine .done ta (by omega) (ha.sz (by omega)) ?_
    by_cases z : a = []
    · subst z
      show Sz 3700 (1 / 0)
      exact ⟨by unfold Bd; decide +kernel, by unfold Bd; decide +kernel⟩
    · exact ha.inv z ta _ (by omega)
  · by_cases e : a = []
    · rw [e]; rw [e] at ha; exact ha
    · exact ha.led ta e
  · rw [pMul_nil_l, ← led_prod ta ts s0 s1 k1, ← pMul_scl, ← e1]
    have l4 : s1'.length ≤ 4 := by rw [e1]; exact Nat.le_trans (pScl_len _ _) s4
    have := pMul_len a s1'
    exact .done (pMul_tr _ _) (by omega) ((cd_pMul ha c1 l4).sz (by omega))
theorem ch_step {s a c g g' : List Rat} {b β : Nat} (ts : Tr s) (s0 : s ≠ []) (s1 : hd s = 1) (s4 : s.length ≤ 4) (cs : Cd 6 s) (ta : Tr a) (tc : Tr c) (c0 : c ≠ []) (ha : Cd b a) (hc : Cd β c)
    (hb : b + 8 + (a.length + 1 - c.length) * (β + 9) ≤ 3700) (hβ : β + 8 ≤ 3700) (la : a.length ≤ 90) (lc : c.length ≤ 90) (h1 : ChR s c (rem a c) g) (h2 : ChR s c (led (rem a c)) g') : ChR s a c g := by
  have z0 := List.length_pos_iff.mpr c0
  have dv := quo_div ta tc z0
  have hne : hd c ≠ 0 := tc.resolve_left (by omega)
  have ee : ∀ x, ev a x = ev (quo a c) x * ev c x + ev (rem a c) x := fun x => by
    have e : a = pAdd (pMul (quo a c) c) (rem a c) := tr_ext ta (pAdd_tr _ _) fun i => by rw [cf_pAdd, cf_pMul, dv.eq]
    have e2 : ev a x = ev (pAdd (pMul (quo a c) c) (rem a c)) x := by rw [← e]
    rw [e2, ev_pAdd, ev_pMul]
  have G1 : Gcd a c g := gcdl_step ee (κ := 1) (by decide) (fun x => by rw [Rat.one_mul]) h1.gcd
  obtain ⟨κ, hκ, eκ⟩ := led_ev dv.tr
  have G2 : Gcd a c g' := gcdl_step ee hκ eκ h2.gcd
  have eg : g = g' := G1.uniq G2
  have le : (a.length + 1 - c.length) * (β + 1) ≤ (a.length + 1 - c.length) * (β + 9) := Nat.mul_le_mul_left _ (by omega)
  refine ⟨G1, ?_, h1.cd, fun s1' s2' κ1 κ2 k1 k2 e1 e2 c1 c2 => ?_⟩
  · obtain ⟨Q, fam, hq, -⟩ := gen_fam (N := a.length + 1 - c.length) hc ha z0 hne (by omega) (by omega)
    exact .step ta tc c0 (by omega) (by omega) ⟨Q, fam, hq⟩ h1.own
  · have n1 : s1'.length = s.length := by rw [e1]; exact scl_len ts k1
    have n2 : s2'.length = s.length := by rw [e2]; exact scl_len ts k2
    have sp := List.length_pos_iff.mpr s0
    have t2 : Tr s2' := by rw [e2]; exact pScl_tr _ _
    have ne2 : s2' ≠ [] := fun z => by rw [z] at n2; simp at n2; omega
    have top := pMul_top tc t2 z0 (List.length_pos_iff.mpr ne2)
    have lA := pMul_len a s1'
    have p0 : pMul c s2' ≠ [] := pMul_ne tc t2 c0 ne2
    have pz := List.length_pos_iff.mpr p0
    have pne : hd (pMul c s2') ≠ 0 := (pMul_tr c s2').resolve_left (by omega)
    have NN : (pMul a s1').length + 1 - (pMul c s2').length ≤ a.length + 1 - c.length := by omega
    obtain ⟨Q, fam, hq, -⟩ := gen_fam (N := a.length + 1 - c.length) (cd_pMul hc c2 (by omega)) (cd_pMul ha c1 (by omega)) pz pne (by
      rw [show β + 6 + 2 + 1 = β + 9 by omega]; omega) (by omega)
    have er : rem (pMul a s1') (pMul c s2') = pScl (pMul (rem a c) s) κ1 := by
      refine rem_eq (q := pScl (quo a c) (κ1 / κ2)) (pMul_tr _ _) (pMul_tr _ _) (pScl_tr _ _) (pScl_tr _ _) ?_ fun x => ?_
      · have := pScl_len (pMul (rem a c) s) κ1
        have := pMul_len (rem a c) s
        have := dv.lt
        omega
      · rw [e1, e2, ev_pMul, ev_pScl, ev_pScl, ev_pMul, ev_pScl, ev_pScl, ev_pMul, ee]
        grind
    refine .step (pMul_tr _ _) (pMul_tr _ _) p0 (by omega) (by omega) ⟨Q, fam_down fam NN, hq⟩ (fun x hx => (fam.sz _ _ (Nat.le_refl _) ((fam_both fam pz NN hq).2 x hx)).mono (by decide)) ?_
    rw [er, led_prod dv.tr ts s0 s1 k1, eg]
    have es : s = pScl s 1 := ev_ext ts (pScl_tr _ _) fun x => by rw [ev_pScl, Rat.mul_one]
    exact h2.all s2' s κ2 1 k2 (by decide) e2 es c2 cs
def chk : Nat → Nat → Nat → Nat → Nat → Bool
  | 0, _, _, _, _ => false
  | k + 1, n, m, b, β => if m = 0 then decide (b ≤ 1800) && (decide (n < 2) || decide (6 + (10 - n) * (b + 1) ≤ 3700)) else decide (b + 8 + (n + 1 - m) * (β + 9) ≤ 3700) && decide (β + 8 ≤ 3700) && (List.range m).all fun j => (decide (n < m) && !decide (j = n)) || chk k m j β (b + (n + 1 - m) * (β + 1))
theorem chain {s : List Rat} (ts : Tr s) (s0 : s ≠ []) (s1 : hd s = 1) (s4 : s.length ≤ 4) (cs : Cd 6 s) : ∀ (k n m b β : Nat), chk k n m b β = true → n ≤ 90 → m ≤ 90 → ∀ a c : List Rat, Tr a → Tr c → a.length = n → c.length = m → Cd b a → Cd β c → ∃ g, ChR s a c g
  | 0, _, _, _, _, h, _, _, _, _, _, _, _, _, _, _ => by cases h
  | k + 1, n, m, b, β, h, n90, m90, a, c, ta, tc, ea, ec, ha, hc => by
    unfold chk at h
    by_cases z : m = 0
    · rw [if_pos z] at h
      have : c = [] := List.length_eq_zero_iff.mp (by omega)
      subst this
      rw [Bool.and_eq_true, Bool.or_eq_true] at h
      refine ⟨_, ch_base ts s0 s1 s4 ta ha (of_decide_eq_true h.1) (fun q => ?_) (by omega)⟩
      rcases h.2 with h | h
      · have := of_decide_eq_true h
        omega
      · rw [ea]
        exact of_decide_eq_true h
    · rw [if_neg z, Bool.and_eq_true, Bool.and_eq_true] at h
      obtain ⟨⟨h1, h2⟩, h3⟩ := h
      have h1 := of_decide_eq_true h1
      have h2 := of_decide_eq_true h2
      have c0 : c ≠ [] := fun e => z (by rw [← ec, e]; rfl)
      have z0 := List.length_pos_iff.mpr c0
      have dv := quo_div ta tc z0
      have lt := dv.lt
      have hne : hd c ≠ 0 := tc.resolve_left (by omega)
      have le : (n + 1 - m) * (β + 1) ≤ (n + 1 - m) * (β + 9) := Nat.mul_le_mul_left _ (by omega)
      obtain ⟨Q, fam, hq, hcd⟩ := gen_fam (N := n + 1 - m) hc ha z0 hne (by omega) (by omega)
      have cr : Cd (b + (n + 1 - m) * (β + 1)) (rem a c) := hcd _ (fam_both fam z0 (by omega) hq).2
      have cl : Cd (b + (n + 1 - m) * (β + 1)) (led (rem a c)) := by
        by_cases e : rem a c = []
        · rw [e]; rw [e] at cr; exact cr
        · exact cr.led dv.tr e
      have hj := List.all_eq_true.mp h3 (rem a c).length (List.mem_range.mpr (by omega))
      have hj : chk k m (rem a c).length β (b + (n + 1 - m) * (β + 1)) = true := by
        by_cases q : n < m
        · have e : rem a c = a := rem_eq (q := []) ta tc tr_nil ta (by omega) fun x => by rw [ev_nil]; grind
          rw [e, ea] at hj ⊢
          simpa using hj
        · rw [decide_eq_false q] at hj
          simpa using hj
      obtain ⟨g, hg⟩ := chain ts s0 s1 s4 cs k m _ β _ hj m90 (by omega) c (rem a c) tc dv.tr ec rfl hc cr
      obtain ⟨g', hg'⟩ := chain ts s0 s1 s4 cs k m _ β _ hj m90 (by omega) c (led (rem a c)) tc (led_tr dv.tr) ec (led_len _) hc cl
      exact ⟨g, ch_step ts s0 s1 s4 cs ta tc c0 ha hc (by rw [ea, ec]; exact h1) h2 (by omega) (by omega) hg hg'⟩
theorem chk_all : ((List.range 10).all fun n => (List.range 7).all fun m => chk 12 n m 6 6 && chk 12 m n 6 6) = true := by decide +kernel
end Dn
end
section
set_option Elab.async false
set_option linter.all false
set_option maxRecDepth 100000
set_option maxHeartbeats 4000000
set_option exponentiation.threshold 10000
namespace Dn
open PySem PySem.Spec L2
/-! ### bottoms of a line that goes into a line (Gauss) -/
def IZ (x : Rat) : Prop := ∃ z : Int, x = (z : Rat)
def PZ (p : Nat) (x : Rat) : Prop := ∃ z : Int, x = ((p : Int) : Rat) * (z : Rat)
theorem IZ.add {x y : Rat} (h : IZ x) (q : IZ y) : IZ (x + y) := by
  obtain ⟨a, rfl⟩ := h; obtain ⟨b, rfl⟩ := q; exact ⟨a + b, by rw [Rat.intCast_add]⟩
theorem IZ.mul {x y : Rat} (h : IZ x) (q : IZ y) : IZ (x * y) := by
  obtain ⟨a, rfl⟩ := h; obtain ⟨b, rfl⟩ := q; exact ⟨a * b, by rw [Rat.intCast_mul]⟩
theorem PZ.add {p : Nat} {x y : Rat} (h : PZ p x) (q : PZ p y) : PZ p (x + y) := by
  obtain ⟨a, rfl⟩ := h; obtain ⟨b, rfl⟩ := q; exact ⟨a + b, by rw [Rat.intCast_add]; grind⟩
theorem PZ.sub {p : Nat} {x y : Rat} (h : PZ p x) (q : PZ p y) : PZ p (x - y) := by
  obtain ⟨a, rfl⟩ := h; obtain ⟨b, rfl⟩ := q; exact ⟨a - b, by rw [Rat.intCast_sub]; grind⟩
theorem PZ.mul {p : Nat} {x y : Rat} (h : PZ p x) (q : IZ y) : PZ p (x * y) := by
  obtain ⟨a, rfl⟩ := h; obtain ⟨b, rfl⟩ := q; exact ⟨a * b, by rw [Rat.intCast_mul]; grind⟩
theorem PZ.zero {p : Nat} : PZ p 0 := ⟨0, by show (0 : Rat) = _ * ((0 : Int) : Rat); rw [show ((0 : Int) : Rat) = 0 from rfl, Rat.mul_zero]⟩
theorem IZ.zero : IZ 0 := ⟨0, rfl⟩
theorem pz_conv {p : Nat} : ∀ (n : Nat) (f g : Cf), (∀ i, PZ p (f i)) → (∀ i, IZ (g i)) → PZ p (conv f g n)
  | 0, f, g, hf, hg => (hf 0).mul (hg 0)
  | n + 1, f, g, hf, hg => ((hf 0).mul (hg (n + 1))).add (pz_conv n (sh f) g (fun i => hf (i + 1)) hg)
theorem pz_conv' {p : Nat} (n : Nat) (f g : Cf) (hf : ∀ i, IZ (f i)) (hg : ∀ i, PZ p (g i)) : PZ p (conv f g n) := by
  rw [conv_comm]; exact pz_conv n g f hg hf
theorem conv_low : ∀ (n a b : Nat) (f g : Cf), (∀ k, k < a → f k = 0) → (∀ k, k < b → g k = 0) → n < a + b → conv f g n = 0
  | 0, a, b, f, g, hf, hg, h => by
    show f 0 * g 0 = 0
    by_cases c : 0 < a
    · rw [hf 0 c, Rat.zero_mul]
    · rw [hg 0 (by omega), Rat.mul_zero]
  | n + 1, a, b, f, g, hf, hg, h => by
    show f 0 * g (n + 1) + conv (sh f) g n = 0
    rw [conv_low n (a - 1) b (sh f) g (fun k hk => hf (k + 1) (by omega)) hg (by omega), Rat.add_zero]
    by_cases c : 0 < a
    · rw [hf 0 c, Rat.zero_mul]
    · rw [hg (n + 1) (by omega), Rat.mul_zero]
def Prm (p : Nat) : Prop := 1 < p ∧ ∀ d, d ∣ p → d = 1 ∨ d = p
theorem prm_ex : ∀ n : Nat, 1 < n → ∃ p, Prm p ∧ p ∣ n := fun n => by
  induction n using Nat.strongRecOn with
  | ind n ih =>
    intro h
    by_cases c : Prm n
    · exact ⟨n, c, Nat.dvd_refl _⟩
    · have : ∃ d, d ∣ n ∧ d ≠ 1 ∧ d ≠ n := by
        apply Classical.byContradiction
        intro k
        exact c ⟨h, fun d hd => Classical.byContradiction fun z => k ⟨d, hd, fun e => z (.inl e), fun e => z (.inr e)⟩⟩
      obtain ⟨d, hd, n1, n2⟩ := this
      have dn := Nat.le_of_dvd (by omega) hd
      have d0 : d ≠ 0 := fun e => by subst e; exact absurd (Nat.eq_zero_of_zero_dvd hd) (by omega)
      obtain ⟨p, hp, hpd⟩ := ih d (by omega) (by omega)
      exact ⟨p, hp, Nat.dvd_trans hpd hd⟩
theorem ic_inj {a b : Int} (h : (a : Rat) = (b : Rat)) : a = b := by exact_mod_cast h
theorem prm_mul {p : Nat} (hp : Prm p) {x y : Rat} (hx : IZ x) (hy : IZ y) (h : PZ p (x * y)) (n : ¬ PZ p x) : PZ p y := by
  obtain ⟨a, rfl⟩ := hx
  obtain ⟨b, rfl⟩ := hy
  obtain ⟨z, hz⟩ := h
  have e : a * b = (p : Int) * z := ic_inj (by rw [Rat.intCast_mul, Rat.intCast_mul]; exact hz)
  have d1 : p ∣ a.natAbs * b.natAbs := ⟨z.natAbs, by rw [← Int.natAbs_mul, e, Int.natAbs_mul]; rfl⟩
  have na : ¬ p ∣ a.natAbs := fun q => n (by
    have : (p : Int) ∣ a := Int.ofNat_dvd_left.mpr q
    obtain ⟨k, hk⟩ := this
    exact ⟨k, by rw [hk, Rat.intCast_mul]⟩)
  have co : Nat.Coprime p a.natAbs := by
    rcases hp.2 _ (Nat.gcd_dvd_left p a.natAbs) with k | k
    · exact k
    · exact absurd (by rw [← k]; exact Nat.gcd_dvd_right p a.natAbs) na
  have := co.dvd_of_dvd_mul_left d1
  obtain ⟨k, hk⟩ := Int.ofNat_dvd_left.mpr this
  exact ⟨k, by rw [hk, Rat.intCast_mul]⟩
/-- a prime that goes into all of a product, but not into all of the first, goes into all of the second -/
theorem prm_conv {p : Nat} (hp : Prm p) {f g : Cf} (hf : ∀ i, IZ (f i)) (hg : ∀ i, IZ (g i)) (h : ∀ n, PZ p (conv f g n)) (n : ¬ ∀ i, PZ p (f i)) : ∀ j, PZ p (g j) := by
  have : ∃ i, ¬ PZ p (f i) ∧ ∀ k, k < i → PZ p (f k) := by
    apply Classical.byContradiction
    intro q
    refine n fun i => ?_
    induction i using Nat.strongRecOn with
    | ind i ih => exact Classical.byContradiction fun z => q ⟨i, z, ih⟩
  obtain ⟨i, ni, lo⟩ := this
  intro j
  induction j using Nat.strongRecOn with
  | ind j ih =>
    let f1 : Cf := fun k => if k < i then f k else 0
    let f2 : Cf := fun k => if i < k then f k else 0
    let g1 : Cf := fun k => if k < j then g k else 0
    let g2 : Cf := fun k => if k < j then 0 else g k
    have e1 : conv f g (i + j) = conv f1 g (i + j) + (f i * g j + conv f2 g (i + j)) := by
      rw [show f i * g j = conv (mono i (f i)) g (i + j) by rw [conv_mono, if_pos (by omega), Nat.add_sub_cancel_left], ← conv_add_l, ← conv_add_l]
      refine conv_congr (fun k => ?_) (fun _ => rfl) _
      show f k = (if k < i then f k else 0) + ((if k = i then f i else 0) + if i < k then f k else 0)
      rcases Nat.lt_trichotomy k i with c | c | c
      · rw [if_pos c, if_neg (by omega), if_neg (by omega), Rat.add_zero, Rat.add_zero]
      · rw [if_neg (by omega), if_pos c, if_neg (by omega), Rat.add_zero, Rat.zero_add, c]
      · rw [if_neg (by omega), if_neg (by omega), if_pos c, Rat.zero_add, Rat.zero_add]
    have e2 : conv f2 g (i + j) = conv f2 g1 (i + j) + conv f2 g2 (i + j) := by
      rw [← conv_add_r]
      refine conv_congr (fun _ => rfl) (fun k => ?_) _
      show g k = (if k < j then g k else 0) + if k < j then 0 else g k
      split
      · rw [Rat.add_zero]
      · rw [Rat.zero_add]
    have e3 : conv f2 g2 (i + j) = 0 := conv_low (i + j) (i + 1) j f2 g2 (fun k hk => if_neg (by omega)) (fun k hk => if_pos hk) (by omega)
    have p1 : PZ p (conv f1 g (i + j)) := pz_conv _ _ _ (fun k => by
      show PZ p (if k < i then f k else 0)
      split
      · exact lo k (by assumption)
      · exact .zero) hg
    have p2 : PZ p (conv f2 g1 (i + j)) := pz_conv' _ _ _ (fun k => by
      show IZ (if i < k then f k else 0)
      split
      · exact hf k
      · exact .zero) (fun k => by
      show PZ p (if k < j then g k else 0)
      split
      · exact ih k (by assumption)
      · exact .zero)
    rw [e2, e3, Rat.add_zero] at e1
    have e4 : f i * g j = conv f g (i + j) - conv f1 g (i + j) - conv f2 g1 (i + j) := by rw [e1]; grind
    exact prm_mul hp (hf i) (hg j) (by rw [e4]; exact ((h _).sub p1).sub p2) ni
/-- what goes into a whole multiple of a whole line goes into it -/
theorem gauss_div {f : Cf} (hf : ∀ i, IZ (f i)) (prim : ∀ p, Prm p → ¬ ∀ i, PZ p (f i)) : ∀ (M : Nat), 0 < M → ∀ (g F : Cf), (∀ i, IZ (g i)) → (∀ i, IZ (F i)) → (∀ n, conv f g n = ((M : Int) : Rat) * F n) → ∀ j, PZ M (g j) := fun M => by
  induction M using Nat.strongRecOn with
  | ind M ih =>
    intro M0 g F hg hF e
    by_cases c : M = 1
    · intro j
      obtain ⟨z, hz⟩ := hg j
      exact ⟨z, by rw [c, hz]; show _ = ((1 : Int) : Rat) * _; rw [show ((1 : Int) : Rat) = 1 from rfl, Rat.one_mul]⟩
    · obtain ⟨p, hp, k, hk⟩ := prm_ex M (by omega)
      have p0 := hp.1
      have k0 : 0 < k := Nat.pos_of_ne_zero fun z => by rw [z] at hk; omega
      have kM : k < M := by
        rw [hk]
        have : 2 * k ≤ p * k := Nat.mul_le_mul_right _ (by omega)
        omega
      have pn : ((p : Int) : Rat) ≠ 0 := ic_ne (by omega)
      have dv := prm_conv hp hf hg (fun n => by
        obtain ⟨z, hz⟩ := hF n
        exact ⟨k * z, by rw [e, hk, hz, Int.natCast_mul, Rat.intCast_mul, Rat.intCast_mul]; grind⟩) (prim p hp)
      have ix : ∀ j, ∃ z : Int, g j = ((p : Int) : Rat) * (z : Rat) := dv
      have r := ih k kM k0 (fun j => g j / ((p : Int) : Rat)) F (fun j => by
        obtain ⟨z, hz⟩ := ix j
        exact ⟨z, by show g j / _ = _; rw [hz]; grind⟩) hF (fun n => by
        have h1 : conv f g n = ((p : Int) : Rat) * conv f (fun j => g j / ((p : Int) : Rat)) n := by
          rw [← conv_smul_r]
          refine conv_congr (fun _ => rfl) (fun j => ?_) _
          grind
        have h2 : ((p : Int) : Rat) * conv f (fun j => g j / ((p : Int) : Rat)) n = ((p : Int) : Rat) * (((k : Int) : Rat) * F n) := by
          rw [← h1, e, hk, Int.natCast_mul, Rat.intCast_mul]; grind
        grind)
      intro j
      obtain ⟨z, hz⟩ := r j
      have hz : g j / ((p : Int) : Rat) = ((k : Int) : Rat) * (z : Rat) := hz
      exact ⟨z, by rw [hk, Int.natCast_mul, Rat.intCast_mul]; grind⟩
theorem lcmF_dvd {k : Nat} : ∀ (l : List Rat) (b : Nat), b ∣ k → (∀ x ∈ l, x.den ∣ k) → l.foldl (fun b x => Nat.lcm b x.den) b ∣ k
  | [], b, h, _ => h
  | y :: l, b, h, q => lcmF_dvd l _ (Nat.lcm_dvd h (q y (List.mem_cons_self ..))) fun x hx => q x (List.mem_cons_of_mem _ hx)
theorem iz_den {x : Rat} {d : Nat} (h : x.den ∣ d) : IZ (((d : Int) : Rat) * x) := by
  obtain ⟨k, hk⟩ := h
  refine ⟨k * x.num, ?_⟩
  have e : x = (x.num : Rat) / ((x.den : Int) : Rat) := by
    rw [← di_eq]; exact (Rat.num_divInt_den x).symm
  have n : ((x.den : Int) : Rat) ≠ 0 := ic_ne (den_ne x)
  rw [hk, Int.natCast_mul, Rat.intCast_mul, Rat.intCast_mul]
  generalize hd' : ((x.den : Int) : Rat) = dd at *
  rw [e]
  grind
theorem den_iz {x : Rat} {k : Nat} (hk : 0 < k) (h : IZ (((k : Int) : Rat) * x)) : x.den ∣ k := by
  obtain ⟨z, hz⟩ := h
  have n : ((k : Int) : Rat) ≠ 0 := ic_ne (by omega)
  have e : x = Rat.divInt z (k : Int) := by
    rw [di_eq, ← hz]
    grind
  rw [e]
  exact den_divInt_dvd z hk
theorem gauss {g a : List Rat} {D L : Int} (tg : Tr g) (g1 : hd g = 1) (g0 : g ≠ []) (ta : Tr a) (a0 : a ≠ []) (h : Goes g a) (d0 : D ≠ 0) (hy : ∀ y ∈ a, ∃ Y : Int, y = Rat.divInt Y D) (hL : hd a = Rat.divInt L D) : lcmF g ∣ L.natAbs := by
  obtain ⟨q0, e0⟩ := h
  obtain ⟨q, hq⟩ : ∃ q, q = trim q0 := ⟨_, rfl⟩
  have tq : Tr q := by rw [hq]; exact trim_tr _
  have ea : a = pMul q g := ev_ext ta (pMul_tr _ _) fun x => by rw [e0, ev_pMul, hq, ev_trim]
  have q0 : q ≠ [] := fun e => a0 (by rw [ea, e, pMul_nil_l])
  have dp := lcmF_pos g
  have np := lcmF_pos q
  have DR := ic_ne d0
  have di : ∀ x ∈ g, x.den ∣ lcmF g := (lcm_fold_dvd g 1).2
  have ni : ∀ x ∈ q, x.den ∣ lcmF q := (lcm_fold_dvd q 1).2
  have cfz : ∀ (l : List Rat) (P : Rat → Prop), P 0 → (∀ x ∈ l, P x) → ∀ i, P (cf l i) := fun l P z w i => by
    by_cases c : i < l.length
    · exact w _ (by rw [cf_lt c]; exact List.getElem_mem _)
    · rw [cf_ge (by omega)]; exact z
  have hf : ∀ i, IZ (((lcmF g : Int) : Rat) * cf g i) := cfz g (fun x => IZ (((lcmF g : Int) : Rat) * x)) (by rw [Rat.mul_zero]; exact .zero) (fun x hx => iz_den (di x hx))
  have hH : ∀ i, IZ (((lcmF q : Int) : Rat) * (D : Rat) * cf q i) := fun i => by
    have := cfz q (fun x => IZ (((lcmF q : Int) : Rat) * x)) (by rw [Rat.mul_zero]; exact .zero) (fun x hx => iz_den (ni x hx)) i
    have e : ((lcmF q : Int) : Rat) * (D : Rat) * cf q i = (D : Rat) * (((lcmF q : Int) : Rat) * cf q i) := by grind
    rw [e]
    exact IZ.mul ⟨D, rfl⟩ this
  have hF : ∀ i, IZ ((D : Rat) * cf a i) := cfz a (fun x => IZ ((D : Rat) * x)) (by rw [Rat.mul_zero]; exact .zero) (fun x hx => by
    obtain ⟨Y, rfl⟩ := hy x hx
    exact ⟨Y, by rw [di_eq]; grind⟩)
  have gtop : cf g (g.length - 1) = 1 := g1
  have prim : ∀ p, Prm p → ¬ ∀ i, PZ p (((lcmF g : Int) : Rat) * cf g i) := fun p hp all => by
    obtain ⟨z, hz⟩ := all (g.length - 1)
    rw [gtop, Rat.mul_one] at hz
    have hz : (lcmF g : Int) = (p : Int) * z := ic_inj (by rw [Rat.intCast_mul]; exact hz)
    obtain ⟨k, hk⟩ : p ∣ lcmF g := Int.ofNat_dvd.mp ⟨z, hz⟩
    have p1 := hp.1
    have k0 : 0 < k := Nat.pos_of_ne_zero fun e => by rw [e] at hk; omega
    have pn : ((p : Int) : Rat) ≠ 0 := ic_ne (by omega)
    have : lcmF g ∣ k := lcmF_dvd g 1 (Nat.one_dvd _) fun x hx => by
      obtain ⟨i, hi, rfl⟩ := List.mem_iff_getElem.mp hx
      obtain ⟨z, hz⟩ := all i
      rw [cf_lt hi, hk, Int.natCast_mul, Rat.intCast_mul] at hz
      exact den_iz k0 ⟨z, by grind⟩
    have := Nat.le_of_dvd k0 this
    have : 2 * k ≤ p * k := Nat.mul_le_mul_right _ (by omega)
    omega
  have mp : 0 < lcmF g * lcmF q := Nat.mul_pos dp np
  have r := gauss_div hf prim (lcmF g * lcmF q) mp (fun i => ((lcmF q : Int) : Rat) * (D : Rat) * cf q i) (fun i => (D : Rat) * cf a i) hH hF (fun n => by
    rw [conv_smul_l, conv_smul_r, conv_comm, ← cf_pMul, ← ea, Int.natCast_mul, Rat.intCast_mul]
    grind) (q.length - 1)
  obtain ⟨z, hz⟩ := r
  have hz : ((lcmF q : Int) : Rat) * (D : Rat) * hd q = (((lcmF g * lcmF q : Nat) : Int) : Rat) * (z : Rat) := hz
  have ha : hd a = hd q := by
    have := hd_pMul tq tg q0 g0
    rw [← ea, g1, Rat.mul_one] at this
    exact this
  rw [← ha, hL, di_eq, Int.natCast_mul, Rat.intCast_mul] at hz
  have nn : ((lcmF q : Int) : Rat) ≠ 0 := ic_ne (by omega)
  have eL : (L : Rat) = ((lcmF g : Int) : Rat) * (z : Rat) := by grind
  have eL : L = (lcmF g : Int) * z := ic_inj (by rw [Rat.intCast_mul]; exact eL)
  exact ⟨z.natAbs, by rw [eL, Int.natAbs_mul]; rfl⟩
theorem lcm60_of {g : List Rat} {L : Int} (L0 : L ≠ 0) (hL : Bd 60 L) (h : lcmF g ∣ L.natAbs) (sz : ∀ x ∈ g, Sz 2000 x) : Lcm60 g := by
  have up : ∀ n, n ∣ L.natAbs → n < 2 ^ 60 := fun n hn => Nat.lt_of_le_of_lt (Nat.le_of_dvd (by omega) hn) hL
  refine ⟨fun i => up _ (Nat.dvd_trans (lcmF_dvd (g.take i) 1 (Nat.one_dvd _) fun x hx => (lcm_fold_dvd g 1).2 x (List.mem_of_mem_take hx)) h), fun x hx => ⟨sz x hx, ?_⟩⟩
  unfold Bd
  exact up _ (Nat.dvd_trans ((lcm_fold_dvd g 1).2 x hx) h)
end Dn
end
section
set_option Elab.async false
set_option linter.all false
set_option maxRecDepth 100000
set_option maxHeartbeats 4000000
set_option exponentiation.threshold 10000
namespace Dn
open PySem PySem.Spec L2
/-! ### what the lines of this law are, and the sizes along their division -/
structure Li (l : List Rat) : Prop where
  t : Tr l
  q : ∀ x ∈ l, Qb 1 6 x
  n : l.length ≤ 9
theorem den_dvd_abs (z : Int) {L : Int} (h : L ≠ 0) : (Rat.divInt z L).den ∣ L.natAbs := by
  rw [Rat.den_divInt, if_neg h]
  exact Nat.div_dvd_of_dvd (by
    have h1 : ((Int.gcd L z : Nat) : Int) ∣ L := Int.gcd_dvd_left ..
    have h2 := Int.natAbs_dvd_natAbs.mpr h1
    simpa using h2)
theorem Li.cd {l : List Rat} (h : Li l) : Cd 6 l := cd_qb h.q (by decide)
theorem Li.sz {l : List Rat} (h : Li l) {n : Nat} (hn : 6 ≤ n) : ∀ x ∈ l, Sz n x := fun x hx => (h.q x hx).sz hn (by omega)
theorem Li.lcm {l : List Rat} (h : Li l) : Lcm60 l := Qb.lcm60 h.q (by decide) (by decide)
theorem hd_ne {l : List Rat} (t : Tr l) (ne : l ≠ []) : hd l ≠ 0 := t.resolve_left (by have := List.length_pos_iff.mpr ne; omega)
/-- the rest, the quotient of two lines of this law -/
structure Dv (l o : List Rat) : Prop where
  fam : ∃ Q, Fam Q o (l.length + 1 - o.length) ∧ ∀ x ∈ l, Q 0 x
  lq : Lcm60 (quo l o)
  sq : ∀ x ∈ quo l o, Sz 100 x
  sr : ∀ x ∈ rem l o, Sz 100 x
  d : IsDiv l o (quo l o) (rem l o)
  nq : (quo l o).length ≤ l.length + 1 - o.length
theorem dv_of {l o : List Rat} (hl : Li l) (ho : Li o) (ne : o ≠ []) : Dv l o := by
  have z0 := List.length_pos_iff.mpr ne
  have n9 := hl.n
  obtain ⟨Q, L, fam, hq, L0, hL, hk⟩ := gen_fam2 (m := o) (l := l) (β := 6) (b := 6) (d := 3) (D := 6) (N := l.length + 1 - o.length) ho.cd (by decide) (by unfold Bd; decide) (by decide) (fun y hy => hl.q y hy) z0 (hd_ne ho.t ne) (by omega) (by decide)
  obtain ⟨f1, f2⟩ := fam_both fam z0 (Nat.le_refl _) hq
  have s : ∀ k : List Rat, (∀ x ∈ k, Q (l.length + 1 - o.length) x) → ∀ x ∈ k, Sz 100 x := fun k h x hx => by
    obtain ⟨z, rfl, hz⟩ := hk k h x hx
    exact sz_divInt L0 (hz.mono (by omega)) (hL.mono (by omega))
  refine ⟨⟨Q, fam, hq⟩, lcm60_of L0 (hL.mono (by omega)) (lcmF_dvd _ 1 (Nat.one_dvd _) fun x hx => ?_) fun x hx => ?_, s _ f1, s _ f2, quo_div hl.t ho.t z0, Nat.le_of_eq (quo_len l o hl.t ho.t z0)⟩
  · obtain ⟨z, rfl, -⟩ := hk _ f1 x hx
    exact den_dvd_abs z L0
  · exact (s _ f1 x hx).mono (by decide)
theorem dv_back {l o : List Rat} (h : Dv l o) (tl : Tr l) : pAdd (pMul o (quo l o)) (rem l o) = l := tr_ext (pAdd_tr _ _) tl fun i => by
  rw [cf_pAdd, cf_pMul, conv_comm, h.d.eq]
/-! ### common parts -/
theorem tr_one : Tr [(1 : Rat)] := .inr (by decide +kernel)
theorem pMul_one {a : List Rat} (ta : Tr a) : pMul a [1] = a := ev_ext (pMul_tr _ _) ta fun x => by
  rw [ev_pMul, ev_cons, ev_nil]; grind
theorem scl_one (n : Rat) (h : n ≠ 0) : pScl [1] n = [n] := ev_ext (pScl_tr _ _) (.inr h) fun x => by
  rw [ev_pScl, ev_cons, ev_nil, ev_cons, ev_nil]; grind
theorem cd_sing (z : Int) (n : Nat) (h : Bd n z) (hn : 0 < n) : Cd n [(z : Rat)] := ⟨1, by decide, by unfold Bd; exact Nat.one_lt_pow (by omega) (by decide), fun y hy => by
  rw [List.mem_singleton.mp hy]
  exact ⟨z, (of_int z).symm, h⟩⟩
structure Com (a b g : List Rat) : Prop where
  gcd : Gcd a b g
  own : EucL a b g
  cd : ∃ B, Cd B g ∧ B ≤ 1800 ∧ (2 ≤ g.length → 6 + (10 - g.length) * (B + 1) ≤ 3700)
  ab : Euc a b g
  ba : Euc b a g
  scl : ∀ n : Int, 2 ≤ n → n ≤ 4 → Euc (pScl a n) b g
/-- the chains of a pair, for a line s that leads with 1 -/
theorem chr_of {s a b : List Rat} (ts : Tr s) (s0 : s ≠ []) (s1 : hd s = 1) (s4 : s.length ≤ 4) (cs : Cd 6 s) (ha : Li a) (hb : Li b) (h : b.length ≤ 6 ∨ a = b) : ∃ g, ChR s a b g ∧ ChR s b a g := by
  have na := ha.n
  have nb := hb.n
  rcases h with h | h
  · have h9 := List.all_eq_true.mp (List.all_eq_true.mp chk_all a.length (List.mem_range.mpr (by omega))) b.length (List.mem_range.mpr (by omega))
    rw [Bool.and_eq_true] at h9
    obtain ⟨g, hg⟩ := chain ts s0 s1 s4 cs 12 _ _ 6 6 h9.1 (by omega) (by omega) a b ha.t hb.t rfl rfl ha.cd hb.cd
    obtain ⟨g', hg'⟩ := chain ts s0 s1 s4 cs 12 _ _ 6 6 h9.2 (by omega) (by omega) b a hb.t ha.t rfl rfl hb.cd ha.cd
    have e : g = g' := hg.gcd.uniq hg'.gcd.symm
    subst e
    exact ⟨g, hg, hg'⟩
  · subst h
    have base : ∀ c : List Rat, c = [] → ChR s a c (led a) := fun c e => by
      subst e
      exact ch_base ts s0 s1 s4 ha.t ha.cd (by decide) (fun _ => by omega) (by omega)
    by_cases e : a = []
    · have := base a e
      exact ⟨_, this, this⟩
    · have r0 : rem a a = [] := rem_eq (q := [1]) ha.t ha.t tr_one tr_nil (List.length_pos_iff.mpr e) fun x => by rw [ev_cons, ev_nil]; grind
      have c1 : ChR s a a (led a) := ch_step ts s0 s1 s4 cs ha.t ha.t e ha.cd ha.cd (by omega) (by decide) (by omega) (by omega) (base _ r0) (base _ (by rw [r0]; rfl))
      exact ⟨_, c1, c1⟩
theorem com_of {a b : List Rat} (ha : Li a) (hb : Li b) (h : b.length ≤ 6 ∨ a = b) : ∃ g, Com a b g := by
  obtain ⟨g, c1, c2⟩ := chr_of tr_one (by decide) (by decide +kernel) (by decide) (cd_sing 1 6 (by unfold Bd; decide) (by decide)) ha hb h
  have e1 : [(1 : Rat)] = pScl [1] 1 := (scl_one 1 (by decide)).symm
  have k1 : Cd 6 [(1 : Rat)] := cd_sing 1 6 (by unfold Bd; decide) (by decide)
  have n1 : (1 : Rat) ≠ 0 := by decide
  refine ⟨g, c1.gcd, c1.own, c1.cd, ?_, ?_, fun n h2 h4 => ?_⟩
  · have := c1.all [1] [1] 1 1 n1 n1 e1 e1 k1 k1
    rwa [pMul_one ha.t, pMul_one hb.t, pMul_one c1.gcd.t] at this
  · have := c2.all [1] [1] 1 1 n1 n1 e1 e1 k1 k1
    rwa [pMul_one ha.t, pMul_one hb.t, pMul_one c1.gcd.t] at this
  · have nz : (n : Rat) ≠ 0 := ic_ne (by omega)
    have := c1.all [(n : Rat)] [1] n 1 nz n1 (scl_one _ nz).symm e1 (cd_sing n 6 (by unfold Bd; omega) (by decide)) k1
    rw [← scl_one _ nz, pMul_scl] at this
    rwa [pMul_one ha.t, pMul_one hb.t, pMul_one c1.gcd.t] at this
/-- a line with itself, with nought -/
theorem euc_nil {a : List Rat} (ha : Li a) : Euc a [] (led a) := .done ha.t (by have := ha.n; omega) (ha.sz (by decide))
theorem euc_self {a : List Rat} (ha : Li a) : Euc a a (led a) := by
  by_cases e : a = []
  · subst e; exact euc_nil ha
  · have n9 := ha.n
    have r0 : rem a a = [] := rem_eq (q := [1]) ha.t ha.t tr_one tr_nil (List.length_pos_iff.mpr e) fun x => by rw [ev_cons, ev_nil]; grind
    refine .step ha.t ha.t e (by omega) (by omega) (dv_of ha ha e).fam (fun x hx => by rw [r0] at hx; exact absurd hx (by simp)) ?_
    rw [r0]
    exact euc_nil ha
theorem Com.nil {a b g : List Rat} (h : Com a b g) (ta : Tr a) (tb : Tr b) (e : g = []) : a = [] ∧ b = [] := by
  subst e
  exact ⟨goes_nil ta h.gcd.da, goes_nil tb h.gcd.db⟩
/-- the common part goes into a line: sizes -/
theorem goes_fam {a g : List Rat} (ha : Li a) (tg : Tr g) (m : hd g = 1) (ne : g ≠ []) (cd : ∃ B, Cd B g ∧ B ≤ 1800 ∧ (2 ≤ g.length → 6 + (10 - g.length) * (B + 1) ≤ 3700)) : ∃ Q, Fam Q g (a.length + 1 - g.length) ∧ ∀ x ∈ a, Q 0 x := by
  have z0 := List.length_pos_iff.mpr ne
  have n9 := ha.n
  have hne : hd g ≠ 0 := by rw [m]; decide
  by_cases c : 2 ≤ g.length
  · obtain ⟨B, h1, h2, h3⟩ := cd
    have h3 := h3 c
    have le : (a.length + 1 - g.length) * (B + 1) ≤ (10 - g.length) * (B + 1) := Nat.mul_le_mul_right _ (by omega)
    obtain ⟨Q, f, q, -⟩ := gen_fam (N := a.length + 1 - g.length) h1 ha.cd z0 hne (by omega) (by omega)
    exact ⟨Q, f, q⟩
  · have e : g = [1] := by
      match g, z0, c, m with
      | [x], _, _, m => rw [show x = 1 from m]
      | _ :: _ :: _, _, c, _ => exact absurd (by simp) c
    subst e
    obtain ⟨Q, f, q, -⟩ := gen_fam (N := a.length + 1 - [(1 : Rat)].length) (cd_sing 1 1 (by unfold Bd; decide) (by decide)) ha.cd z0 hne (by simp; omega) (by decide)
    exact ⟨Q, f, q⟩
theorem Com.rem {a b g : List Rat} (h : Com a b g) (ta : Tr a) (tb : Tr b) (ne : g ≠ []) : Dn.rem a g = [] ∧ Dn.rem b g = [] := ⟨h.gcd.da.rem ta h.gcd.t ne, h.gcd.db.rem tb h.gcd.t ne⟩
theorem li_num {a : List Rat} (ha : Li a) (ne : a ≠ []) : ∃ L : Int, hd a = Rat.divInt L 6 ∧ L ≠ 0 ∧ Bd 60 L := by
  have hmem : hd a ∈ a := by have := List.length_pos_iff.mpr ne; unfold hd; rw [cf_lt (by omega)]; exact List.getElem_mem _
  obtain ⟨L, e, hL⟩ := ha.q _ hmem
  exact ⟨L, e, fun z => hd_ne ha.t ne (by rw [e, z, Rat.zero_divInt]), hL.mono (by decide)⟩
theorem goes_lcm {a g : List Rat} (ha : Li a) (ne : a ≠ []) (tg : Tr g) (m : hd g = 1) (g0 : g ≠ []) (h : Goes g a) (sz : ∀ x ∈ g, Sz 2000 x) : Lcm60 g := by
  obtain ⟨L, e, L0, hL⟩ := li_num ha ne
  exact lcm60_of L0 hL (gauss tg m g0 ha.t ne h (D := 6) (by decide) (fun y hy => by obtain ⟨z, h1, -⟩ := ha.q y hy; exact ⟨z, h1⟩) e) sz
theorem lcm60_nil : Lcm60 [] := ⟨fun i => by rw [List.take_nil]; decide, fun x hx => absurd hx (by simp)⟩
theorem Com.lcm {a b g : List Rat} (h : Com a b g) (ha : Li a) (hb : Li b) : Lcm60 g := by
  by_cases e : g = []
  · rw [e]; exact lcm60_nil
  · obtain ⟨B, h1, h2, -⟩ := h.cd
    have sz : ∀ x ∈ g, Sz 2000 x := fun x hx => (h1.sz h2 x hx).mono (by decide)
    have m := h.gcd.m.resolve_left e
    by_cases ea : a = []
    · by_cases eb : b = []
      · exfalso
        obtain ⟨u, v, q⟩ := h.gcd.l
        exact e (tr_ev0 h.gcd.t fun x => by rw [q, ea, eb, ev_nil]; grind)
      · exact goes_lcm hb eb h.gcd.t m e h.gcd.db sz
    · exact goes_lcm ha ea h.gcd.t m e h.gcd.da sz
theorem goes_led {s : List Rat} (ts : Tr s) (ne : s ≠ []) : Goes (led s) s := ⟨[hd s], fun x => by rw [ev_cons, ev_nil, ev_hd ts ne]; grind⟩
theorem led_lcm {s : List Rat} (hs : Li s) (ne : s ≠ []) : Lcm60 (led s) :=
  goes_lcm hs ne (led_tr hs.t) (hd_led hs.t ne) (fun e => ne (by have := led_len s; rw [e] at this; exact List.length_eq_zero_iff.mp this.symm)) (goes_led hs.t ne) fun x hx => ((hs.cd.led hs.t ne).sz (by decide) x hx)
theorem led_back {s : List Rat} (hs : Tr s) (ne : s ≠ []) : s = pScl (led s) (hd s) := ev_ext hs (pScl_tr _ _) fun x => by
  rw [ev_pScl, ev_hd hs ne]; grind
theorem cd_qbk {k β : Nat} {l : List Rat} (h : ∀ x ∈ l, Qb k β x) (hk : 3 * k + 1 ≤ β) : Cd β l := ⟨6 ^ k, six_ne k, (six_bd k).mono hk, fun y hy => h y hy⟩
end Dn
end
section
set_option Elab.async false
set_option linter.all false
set_option maxRecDepth 100000
set_option maxHeartbeats 4000000
set_option exponentiation.threshold 10000
namespace Dn
open PySem PySem.Spec L2
section
variable {X : Cx} {C : Addr} {j : Nat}
theorem txd_giv {d : D} {xs : List Rat} (o : OwnS X.prog X.w X.K X.mg X.base 2 C "__repr__" (S_txt C qrepr)) (h : Giv C d xs) (hx : ∀ x ∈ xs, Sz 1800 x) : TxD X 3 d (givTx d xs) := by
  obtain ⟨dl, hd, hn, hl⟩ := h
  have t := txds_nums (X := X) o hn hx
  rcases hd with rfl | rfl
  · exact txd_lsts t
  · exact txd_tup t
theorem givTx_len {d : D} {xs : List Rat} (h : Giv C d xs) (hx : ∀ x ∈ xs, Sz 1800 x) : (givTx d xs).length ≤ 130000 := by
  obtain ⟨dl, hd, hn, hl⟩ := h
  have s := giv_small hn hx hl
  rcases hd with rfl | rfl
  · have := listText_le (List.zipWith nTx dl xs)
    show (listText _).length ≤ _
    omega
  · have := tupleText_le (List.zipWith nTx dl xs)
    show (tupleText _).length ≤ _
    omega
theorem rep_two {d e : D} {xs ys : List Rat} (nog : X.A.guards = some []) (o : OwnS X.prog X.w X.K X.mg X.base 2 C "__repr__" (S_txt C qrepr)) (h : Giv C d xs) (hx : ∀ x ∈ xs, Sz 1800 x) (h' : Giv C e ys) (hy : ∀ y ∈ ys, Sz 1800 y) (hr : Room j X.A) (hk : 5 ≤ j := by decide) : CallD X (.builtin "repr") [.lst [d, e]] (.val (.str (listText [givTx d xs, givTx e ys]))) := by
  have t : TxDs X 3 [d, e] [givTx d xs, givTx e ys] := .cons (txd_giv o h hx) (.cons (txd_giv o h' hy) .nil)
  refine cd_reprT nog t.pns t.get t.length ?_ hr hk
  have a := listText_le [givTx d xs, givTx e ys]
  have b := piled_le (n := 130000) [givTx d xs, givTx e ys] fun u hu => by
    rcases List.mem_cons.mp hu with rfl | hu
    · exact givTx_len h hx
    · rcases List.mem_cons.mp hu with rfl | hu
      · exact givTx_len h' hy
      · cases hu
  have c : [givTx d xs, givTx e ys].length = 2 := rfl
  rw [c] at b
  rw [sizeLine_eq]
  omega
end
section
variable {X : Cx} {P : Program} {w : World} {K : PySem.W.Frag} {mg : Str → Option Value} {base : Heap} {N : List Str} {n : Nat} {C : Addr} {l m l' m' : List Rat} {x y : Rat}
/-- what the law's walk knows of the class -/
structure Kn4 (P : Program) (w : World) (K : PySem.W.Frag) (mg : Str → Option Value) (base : Heap) (C : Addr) : Prop where
  oq : OwnS P w K mg base 2 C "__repr__" (S_txt C qrepr)
  oe : OwnS P w K mg base 1 C "__eq__" (S_eq K C)
  ne : PySem.W.findIn K (.ref C) "__ne__" = some (some (.builtin "object.__ne__"))
  rc : Rc K mg C
  nf : PySem.W.notFirst K C (.ref C) = true
theorem b_neLn (hx : Cxt X P w K mg base N n) (k : Kn4 P w K mg base C) (e : Side (l = m)) (hk : 2 ≤ n := by decide) : BinD X (compareOp .NotEq) (lnD C l) (lnD C m) (.val (.bl false)) := by
  obtain ⟨q1, q2, q3, q4, q5, q6, _, _, room⟩ := hx
  subst q1 q2 q3 q4 q5 q6
  exact ne_same k.oe k.nf e room hk
theorem b_eqLn (hx : Cxt X P w K mg base N n) (k : Kn4 P w K mg base C) (e : Side (l = m)) (hk : 2 ≤ n := by decide) : BinD X (compareOp .Eq) (lnD C l) (lnD C m) (.val (.bl true)) := by
  obtain ⟨q1, q2, q3, q4, q5, q6, _, _, room⟩ := hx
  subst q1 q2 q3 q4 q5 q6
  exact eq_same k.oe k.nf e room hk
theorem eqd_ln (o : OwnS X.prog X.w X.K X.mg X.base 1 C "__eq__" (S_eq X.K C)) (nf : PySem.W.notFirst X.K C (.ref C) = true) (l : List Rat) : EqD X 2 (lnD C l) (lnD C l) true := by
  have h := eqd_lst (eqds_ln o nf l) fun _ _ _ _ => all_true l
  rw [all_true] at h
  exact h
theorem b_neT2 (hx : Cxt X P w K mg base N n) (k : Kn4 P w K mg base C) (e : Side (l = l')) (e2 : Side (m = m')) (hk : 3 ≤ n := by decide) : BinD X (compareOp .NotEq) (.tup [lnD C l, lnD C m]) (.tup [lnD C l', lnD C m']) (.val (.bl false)) := by
  obtain ⟨q1, q2, q3, q4, q5, q6, _, _, room⟩ := hx
  subst q1 q2 q3 q4 q5 q6
  have e : l = l' := e
  have e2 : m = m' := e2
  subst e e2
  exact bd_neT (EqDs.cons (eqd_ln k.oe k.nf l) (.cons (eqd_ln k.oe k.nf m) .nil)) room hk
theorem b_eqT2 (hx : Cxt X P w K mg base N n) (k : Kn4 P w K mg base C) (e : Side (l = l')) (e2 : Side (m = m')) (hk : 3 ≤ n := by decide) : BinD X (compareOp .Eq) (.tup [lnD C l, lnD C m]) (.tup [lnD C l', lnD C m']) (.val (.bl true)) := by
  obtain ⟨q1, q2, q3, q4, q5, q6, _, _, room⟩ := hx
  subst q1 q2 q3 q4 q5 q6
  have e : l = l' := e
  have e2 : m = m' := e2
  subst e e2
  exact bd_eqT (EqDs.cons (eqd_ln k.oe k.nf l) (.cons (eqd_ln k.oe k.nf m) .nil)) room hk
theorem c_repTwo {d e : D} {xs ys : List Rat} (hx : Cxt X P w K mg base N n) (k : Kn4 P w K mg base C) (nog : X.A.guards = some []) (h : Giv C d xs) (h1 : ∀ x ∈ xs, Sz 1800 x) (h' : Giv C e ys) (h2 : ∀ y ∈ ys, Sz 1800 y) (hk : 5 ≤ n := by decide) : CallD X (.builtin "repr") [.lst [d, e]] (.val (.str (listText [givTx d xs, givTx e ys]))) := by
  obtain ⟨q1, q2, q3, q4, q5, q6, _, _, room⟩ := hx
  subst q1 q2 q3 q4 q5 q6
  exact rep_two nog k.oq h h1 h' h2 room hk
end
/-! ### lines given -/
def Gw (C : Addr) (d : D) (l : List Rat) : Prop := Tr l ∧ ∃ xs, Giv C d xs ∧ trim xs = l ∧ ∀ x ∈ xs, x = 0 ∨ x ∈ l
theorem gw_giv {C : Addr} {p : Pot} {l : List Rat} (ok : p.Ok) (t : Tr l) (hl : l.length ≤ 31) : Gw C (givD C p l) l := by
  obtain ⟨xs, g, e, m⟩ := gv_giv (C := C) ok hl
  exact ⟨t, xs, g, trim_eq t e, m⟩
theorem gw_ln {C : Addr} {l : List Rat} (t : Tr l) (hl : l.length ≤ 31) : Gw C (lnD C l) l := ⟨t, l, giv_ln hl, trim_of t, fun x hx => .inr hx⟩
section
variable {C : Addr} {d e : D} {l o g : List Rat}
theorem sp_plus' {n : Nat} (h : Gw C d l) (q : Gw C e o) (s1 : ∀ x ∈ l, Sz n x) (s2 : ∀ x ∈ o, Sz n x) (hn : n ≤ 3700 := by decide) : S_two C cPlus pAdd [d, e] (.own (lnD C (pAdd l o))) := by
  obtain ⟨_, xs, gx, rfl, qx⟩ := h
  obtain ⟨_, ys, gy, rfl, qy⟩ := q
  have z0 : Sz 3700 (0 : Rat) := ⟨by unfold Bd; decide, by unfold Bd; decide⟩
  exact ⟨d, xs, e, ys, rfl, gx, gy, ⟨fun x hx => (qx x hx).elim (fun z => by rw [z]; exact z0) fun z => (s1 x z).mono hn, fun x hx => (qy x hx).elim (fun z => by rw [z]; exact z0) fun z => (s2 x z).mono hn⟩, by rw [pAdd_trim]⟩
theorem sp_times' (h : Gw C d l) (q : Gw C e o) (s1 : Lcm60 l) (s2 : Lcm60 o) (b : degN l + degN o ≤ 30) : S_two C cTimes pMul [d, e] (.own (lnD C (pMul l o))) := by
  obtain ⟨_, xs, gx, rfl, qx⟩ := h
  obtain ⟨_, ys, gy, rfl, qy⟩ := q
  exact ⟨d, xs, e, ys, rfl, gx, gy, ⟨s1, s2, b⟩, by rw [pMul_trim]⟩
theorem sp_told' (h : Gw C d l) : S_want_line C [d] (.own (lnD C l)) := by
  obtain ⟨_, xs, gx, rfl, qx⟩ := h
  exact ⟨d, xs, rfl, gx, rfl⟩
theorem sp_degree' (h : Gw C d l) : S_degree C [d] (.val (.int ((l.length : Int) - 1))) := by
  obtain ⟨_, xs, gx, rfl, qx⟩ := h
  exact ⟨d, xs, rfl, gx, rfl⟩
theorem sp_scaled' {f : D} {c : Rat} {n : Nat} (h : Gw C d l) (hc : Num C f c) (s1 : ∀ x ∈ l, Sz n x) (sc : Sz n c) (hn : n ≤ 3700 := by decide) : S_scaled C [d, f] (.own (lnD C (pScl l c))) := by
  obtain ⟨_, xs, gx, rfl, qx⟩ := h
  have z0 : Sz 3800 (0 : Rat) := ⟨by unfold Bd; decide, by unfold Bd; decide⟩
  exact ⟨d, xs, f, c, rfl, gx, hc, fun x hx => (qx x hx).elim (fun z => by rw [z]; exact z0) fun z => (s1 x z).mono (by omega), sc.mono (by omega), by rw [pScl_trim]⟩
theorem sp_div (h : Gw C d l) (q : Gw C e o) (ne : o ≠ []) (fam : ∃ Q, Fam Q o (l.length + 1 - o.length) ∧ ∀ x ∈ l, Q 0 x) : S_divided C [d, e] (.val (.tup [lnD C (quo l o), lnD C (rem l o)])) := by
  obtain ⟨_, xs, gx, rfl, qx⟩ := h
  obtain ⟨_, ys, gy, rfl, qy⟩ := q
  exact ⟨d, xs, e, ys, rfl, gx, gy, ne, fam, rfl⟩
theorem sp_common (h : Gw C d l) (q : Gw C e o) (he : Euc l o g) : S_common C [d, e] (.own (lnD C g)) := by
  obtain ⟨_, xs, gx, rfl, qx⟩ := h
  obtain ⟨_, ys, gy, rfl, qy⟩ := q
  exact ⟨d, xs, e, ys, g, rfl, gx, gy, he, rfl⟩
end
end Dn
end
section
set_option Elab.async false
set_option linter.all false
set_option maxRecDepth 100000
set_option maxHeartbeats 4000000
set_option exponentiation.threshold 10000
namespace Dn
open PySem PySem.Spec L2
theorem pk_two {S : List D → Res → Prop} {d e : D} {r : Res} (h : S [e, d] r) : SpG (S (pk [1, 0] [d, e]) r) := h
local macro_rules | `(tactic| eq_refl) => `(tactic| first
  | ((with_reducible change SpG (S_divided _ (pk _ _) _)); exact pk_two (by with_reducible assumption))
  | ((with_reducible change SpG (S_common _ (pk _ _) _)); exact pk_two (by with_reducible assumption))
  | ((with_reducible change BinD _ (compareOp CmpOp.NotEq) (lnD _ _) (lnD _ _) _); (refine' b_neLn (by assumption) (by assumption) ?_))
  | ((with_reducible change BinD _ (compareOp CmpOp.NotEq) (D.tup _) (D.tup _) _); (refine' b_neT2 (by assumption) (by assumption) ?_ ?_))
  | ((with_reducible change CallD _ (Value.builtin "repr") [D.lst [_, _]] _); exact c_repTwo (by assumption) (by assumption) (by assumption) (by assumption) (by assumption) (by assumption) (by assumption)))
section
variable {P : Program} {w : World} {K : PySem.W.Frag} {mg : Str → Option Value} {base : Heap} {f C : Addr} {fd : FuncData}
def T_quotient_right : D → List D → Res → D → Prop := fun c ds r c' => ∃ (p : Pot) (l o : List Rat), c = potD p ∧ ds = [lpD l, lpD o] ∧ p.Ok ∧ Li l ∧ Li o ∧ r = .val (.bl true) ∧ c' = potD (givP (givP p l) o)
theorem ok_law_quotient_right (F : FunG K "_law_quotient_right" "_law_quotient_right" s_law_quotient_right f fd) (L : Kn4 P w K mg base C) (c1 : Cal true P w K mg base 6 "_law_given" (spIO K (T_given C)) []) (c2 : Cal true P w K mg base 4 "_law_divided" (spD K S_law_divided) []) (c4 : Cal true P w K mg base 5 "_law_is_line" (spD K (S_law_is_line C)) [])
    (g1 : Cal false P w K mg base 7 "divided" (spD K (S_divided C)) []) (g2 : CalK P w K mg base 7 "divided" (spD K (S_divided C)) ["other", "line"] [1, 0]) (g3 : Cal false P w K mg base 7 "plus" (spD K (S_two C cPlus pAdd)) []) (g4 : Cal false P w K mg base 7 "times" (spD K (S_two C cTimes pMul)) []) (g5 : Cal false P w K mg base 6 "told" (spD K (S_want_line C)) []) (g6 : Cal false P w K mg base 6 "degree" (spD K (S_degree C)) [])
    (B : Bi mg) (ktt : PySem.W.kitOne K (.type "tuple") (.type "tuple") = some true) (hrp : mg "repr" = none) (hln : mg "len" = none) : FnB true P w K mg base 8 f fd ["_law_pot_here", "_law_line_here", "_law_other"] (spIO K T_quotient_right) := by
  refine fnAIO F cs_law_quotient_right (fun c ds r c' ⟨_, _, _, _, h, _⟩ => by rw [h]; rfl) (fun cdv A outer s H hX nog c ds r c' h => ?_)
  obtain ⟨p, l, o, rfl, rfl, ok, hl, ho, rfl, rfl⟩ := h
  have ng := nog rfl
  have bi := B.isi
  have bt := B.tuple
  have ok1 := givP_ok ok l
  have ok2 := givP_ok ok1 o
  have nl := hl.n
  have no := ho.n
  have gl : Gw C (givD C p l) l := gw_giv ok hl.t (by omega)
  have go : Gw C (givD C (givP p l) o) o := gw_giv ok1 ho.t (by omega)
  obtain ⟨-, xs, gx, ex, qx⟩ := id gl
  obtain ⟨-, ys, gy, ey, qy⟩ := id go
  have z0 : Sz 1800 (0 : Rat) := ⟨by unfold Bd; decide, by unfold Bd; decide⟩
  have sx : ∀ x ∈ xs, Sz 1800 x := fun x hx => (qx x hx).elim (fun z => by rw [z]; exact z0) fun z => hl.sz (by decide) x z
  have sy : ∀ x ∈ ys, Sz 1800 x := fun x hx => (qy x hx).elim (fun z => by rw [z]; exact z0) fun z => ho.sz (by decide) x z
  have t1 : T_given C (potD p) [lpD l] (.val (givD C p l)) (potD (givP p l)) := ⟨_, _, rfl, rfl, ok, by omega, hl.sz (by decide), rfl, rfl⟩
  have t2 : T_given C (potD (givP p l)) [lpD o] (.val (givD C (givP p l) o)) (potD (givP (givP p l) o)) := ⟨_, _, rfl, rfl, ok1, by omega, ho.sz (by decide), rfl, rfl⟩
  obtain ⟨d, hd⟩ : ∃ d, d = givD C p l := ⟨_, rfl⟩
  obtain ⟨e, he⟩ : ∃ e, e = givD C (givP p l) o := ⟨_, rfl⟩
  obtain ⟨q0, hq⟩ : ∃ q0, q0 = givP (givP p l) o := ⟨_, rfl⟩
  rw [← hd] at gl gx t1
  rw [← he] at go gy t2
  rw [← hq] at ok2 t2 ⊢
  show PSD _ _ _ [.own (potD p), .val (lpD l), .val (lpD o), .non, .non, .non, .non, .non] _
  by_cases c0 : o = []
  · have e0 : decide ((o.map qP).length = 0) = true := decide_eq_true (by rw [c0]; rfl)
    repeat ac_rfl
  · have e0 : decide ((o.map qP).length = 0) = false := decide_eq_false (by rw [List.length_map]; exact fun z => c0 (List.length_eq_zero_iff.mp z))
    have dv := dv_of hl ho c0
    have op := List.length_pos_iff.mpr c0
    have lt := dv.d.lt
    have nq := dv.nq
    have u1 : S_divided C [d, e] (.val (.tup [lnD C (quo l o), lnD C (rem l o)])) := sp_div gl go c0 dv.fam
    have u2 : S_law_divided [lpD l, lpD o] (.val (.tup [lpD (quo l o), lpD (rem l o)])) := ⟨l, o, rfl, hl.t, ho.t, op, by omega, by omega, dv.fam, rfl⟩
    have u3 : S_law_is_line C [lnD C (quo l o), lpD (quo l o)] (.val (.bl true)) := ⟨_, _, rfl, rfl, fun x hx => (dv.sq x hx).mono (by decide), by omega, rfl⟩
    have u4 : S_law_is_line C [lnD C (rem l o), lpD (rem l o)] (.val (.bl true)) := ⟨_, _, rfl, rfl, fun x hx => (dv.sr x hx).mono (by decide), by omega, rfl⟩
    have wq : Gw C (lnD C (quo l o)) (quo l o) := gw_ln dv.d.tq (by omega)
    have wr : Gw C (lnD C (rem l o)) (rem l o) := gw_ln dv.d.tr (by omega)
    have tm := sp_times' go wq ho.lcm dv.lq (by unfold degN; omega)
    have lm := pMul_len o (quo l o)
    have wm : Gw C (lnD C (pMul o (quo l o))) (pMul o (quo l o)) := gw_ln (pMul_tr _ _) (by omega)
    have bk := dv_back dv hl.t
    have sm : ∀ x ∈ pMul o (quo l o), Sz 3700 x := by
      intro x hx
      obtain ⟨i, hi, rfl⟩ := ofF_mem (trim_mem hx)
      have e2 : conv (cf o) (cf (quo l o)) i = cf l i - cf (rem l o) i := by rw [conv_comm, dv.d.eq]; grind
      rw [e2]
      exact ((cf_sz (hl.sz (n := 100) (by decide)) (hn := by decide) i).sub (cf_sz dv.sr (hn := by decide) i)).mono (by decide)
    have u5 : S_two C cPlus pAdd [lnD C (pMul o (quo l o)), lnD C (rem l o)] (.own (lnD C l)) := by
      have := sp_plus' (n := 3700) wm wr sm (fun x hx => (dv.sr x hx).mono (by decide))
      rwa [bk] at this
    have u6 := sp_told' gl
    have u7 := sp_degree' wr
    have u8 := sp_degree' go
    repeat ac_rfl
    exact ⟨by rw [decide_eq_true rfl], rfl⟩
end
end Dn
end
section
set_option Elab.async false
set_option linter.all false
set_option maxRecDepth 100000
set_option maxHeartbeats 4000000
set_option exponentiation.threshold 10000
namespace Dn
open PySem PySem.Spec L2
section
variable {X : Cx} {P : Program} {w : World} {K : PySem.W.Frag} {mg : Str → Option Value} {base : Heap} {N : List Str} {n : Nat} {C : Addr} {l m l' m' : List Rat} {x y : Rat}
theorem eq_q {X : Cx} {C : Addr} {j : Nat} {x y : Rat} (o : OwnS X.prog X.w X.K X.mg X.base 1 C "__eq__" (S_eq X.K C)) (rc : Rc X.K X.mg C) (nf : PySem.W.notFirst X.K C (.ref C) = true) (e : x = y) (hr : Room j X.A) (hk : 1 ≤ j := by decide) : BinD X (compareOp .Eq) (qD C x) (qD C y) (.val (.bl true)) := by
  obtain ⟨f, fd, ps, a, fn, F, hb⟩ := o.ex
  exact bd_cmpO (op := .Eq) (fun _ _ => rfl) a fn (rc.ty _) nf F hb hr ⟨x, _, _, rfl, rfl, .inl ⟨y, rfl, (decide_eq_true e).symm⟩⟩ hk
theorem b_eqQ (hx : Cxt X P w K mg base N n) (k : Kn4 P w K mg base C) (e : Side (x = y)) (hk : 2 ≤ n := by decide) : BinD X (compareOp .Eq) (qD C x) (qD C y) (.val (.bl true)) := by
  obtain ⟨q1, q2, q3, q4, q5, q6, _, _, room⟩ := hx
  subst q1 q2 q3 q4 q5 q6
  exact eq_q k.oe k.rc k.nf e room (by omega)
end
local macro_rules | `(tactic| eq_refl) => `(tactic| first
  | ((with_reducible change SpG (S_divided _ (pk _ _) _)); exact pk_two (by with_reducible assumption))
  | ((with_reducible change SpG (S_common _ (pk _ _) _)); exact pk_two (by with_reducible assumption))
  | ((with_reducible change BinD _ (compareOp CmpOp.NotEq) (lnD _ _) (lnD _ _) _); (refine' b_neLn (by assumption) (by assumption) ?_))
  | ((with_reducible change BinD _ (compareOp CmpOp.NotEq) (D.tup _) (D.tup _) _); (refine' b_neT2 (by assumption) (by assumption) ?_ ?_))
  | ((with_reducible change BinD _ (compareOp CmpOp.Eq) (qD _ _) (qD _ _) _); (refine' b_eqQ (by assumption) (by assumption) ?_))
  | ((with_reducible change PD _ (Expr.Call (Expr.Name "Ratio" _) _ _ _) _ _ _); (refine' a_ratio1 (by assumption) (by assumption) ?_))
  | ((with_reducible change CallD _ (Value.builtin "repr") [D.lst [_, _]] _); exact c_repTwo (by assumption) (by assumption) (by assumption) (by assumption) (by assumption) (by assumption) (by assumption)))
section
variable {P : Program} {w : World} {K : PySem.W.Frag} {mg : Str → Option Value} {base : Heap} {f C : Addr} {fd : FuncData}
def comQ (p : Pot) (a b : List Rat) : Pot := givP (givP p a) b
def comP (p : Pot) (a b : List Rat) : Pot := passP (draw (comQ p a b) 3).2 (((2 + (draw (comQ p a b) 3).1 : Int)) : Rat)
theorem comQ_ok {p : Pot} (ok : p.Ok) (a b : List Rat) : (comQ p a b).Ok := givP_ok (givP_ok ok a) b
theorem comP_ok {p : Pot} (ok : p.Ok) (a b : List Rat) : (comP p a b).Ok := passP_ok (draw_ok (comQ_ok ok a b) (by decide)).2.2 _
def T_common_right : D → List D → Res → D → Prop := fun c ds r c' => ∃ (p : Pot) (a b : List Rat), c = potD p ∧ ds = [lpD a, lpD b] ∧ p.Ok ∧ Li a ∧ Li b ∧ (b.length ≤ 6 ∨ a = b) ∧ r = .val (.bl true) ∧ c' = potD (comP p a b)
theorem ok_law_common_right (F : FunG K "_law_common_right" "_law_common_right" s_law_common_right f fd) (L : Kn4 P w K mg base C) (cd : Cal false P w K mg base 1 "_law_draw" (spIO K T_draw) []) (c1 : Cal true P w K mg base 6 "_law_given" (spIO K (T_given C)) []) (c2 : Cal true P w K mg base 5 "_law_common" (spD K S_law_common) []) (c3 : Cal true P w K mg base 5 "_law_passed" (spIO K (T_passed C)) []) (c4 : Cal true P w K mg base 5 "_law_is_line" (spD K (S_law_is_line C)) [])
    (g1 : Cal false P w K mg base 7 "divided" (spD K (S_divided C)) []) (g2 : Cal false P w K mg base 7 "common" (spD K (S_common C)) []) (g3 : CalK P w K mg base 7 "common" (spD K (S_common C)) ["other", "line"] [1, 0]) (g4 : Cal false P w K mg base 6 "scaled" (spD K (S_scaled C)) [])
    (mk : Mak P w K mg base 2 "Ratio" C (spIO K (T_init C)) [.int 1]) : FnB true P w K mg base 8 f fd ["_law_pot_here", "_law_one", "_law_other"] (spIO K T_common_right) := by
  refine fnAIO F cs_law_common_right (fun c ds r c' ⟨_, _, _, _, h, _⟩ => by rw [h]; rfl) (fun cdv A outer s H hX nog c ds r c' h => ?_)
  obtain ⟨p, l, o, rfl, rfl, ok, hl, ho, hlo, rfl, rfl⟩ := h
  have ng := nog rfl
  have ok1 := givP_ok ok l
  have ok2 := givP_ok ok1 o
  have nl := hl.n
  have no := ho.n
  have gl : Gw C (givD C p l) l := gw_giv ok hl.t (by omega)
  have go : Gw C (givD C (givP p l) o) o := gw_giv ok1 ho.t (by omega)
  have t1 : T_given C (potD p) [lpD l] (.val (givD C p l)) (potD (givP p l)) := ⟨_, _, rfl, rfl, ok, by omega, hl.sz (by decide), rfl, rfl⟩
  have t2 : T_given C (potD (givP p l)) [lpD o] (.val (givD C (givP p l) o)) (potD (comQ p l o)) := ⟨_, _, rfl, rfl, ok1, by omega, ho.sz (by decide), rfl, rfl⟩
  obtain ⟨d, hd_⟩ : ∃ d, d = givD C p l := ⟨_, rfl⟩
  obtain ⟨e, he⟩ : ∃ e, e = givD C (givP p l) o := ⟨_, rfl⟩
  have okq := comQ_ok ok l o
  have dz := draw_ok (m := 3) okq (by decide)
  obtain ⟨q0, hq⟩ : ∃ q0, q0 = comQ p l o := ⟨_, rfl⟩
  have eP : comP p l o = passP (draw (comQ p l o) 3).2 (((2 + (draw (comQ p l o) 3).1 : Int)) : Rat) := rfl
  rw [eP]
  rw [← hd_] at gl t1
  rw [← he] at go t2
  rw [← hq] at t2 okq dz ⊢
  obtain ⟨z, hz⟩ : ∃ z, z = (draw q0 3).1 := ⟨_, rfl⟩
  obtain ⟨q1, hq1⟩ : ∃ q1, q1 = (draw q0 3).2 := ⟨_, rfl⟩
  have t3 : T_draw (potD q0) [.int 3] (.val (.int (draw q0 3).1)) (potD (draw q0 3).2) := ⟨_, _, rfl, rfl, okq, by decide, by decide, rfl, rfl⟩
  rw [← hz] at dz t3 ⊢
  rw [← hq1] at dz t3 ⊢
  have bz : Bd 4 (2 + z) := by unfold Bd; omega
  have sz2 : Sz 4 (((2 + z : Int)) : Rat) := sz_int bz (by decide)
  have t4 : T_passed C (potD q1) [.tup [.int (2 + z), .int 1]] (.val (passD C q1 (((2 + z : Int)) : Rat))) (potD (passP q1 (((2 + z : Int)) : Rat))) := ⟨q1, _, rfl, by rw [← qP_int], dz.2.2, sz2.mono (by decide), rfl, rfl⟩
  have hpn : Num C (passD C q1 (((2 + z : Int)) : Rat)) (((2 + z : Int)) : Rat) := pass_num _ _
  obtain ⟨g, hg⟩ := com_of hl ho hlo
  obtain ⟨B, b1, b2, b3⟩ := hg.cd
  have lg : g.length ≤ 9 := by
    by_cases h0 : l = []
    · by_cases h1 : o = []
      · have : g = [] := by
          obtain ⟨u, v, q⟩ := hg.gcd.l
          exact tr_ev0 hg.gcd.t fun x => by rw [q, h0, h1, ev_nil]; grind
        rw [this]; decide
      · exact Nat.le_trans (hg.gcd.db.len ho.t hg.gcd.t h1) no
    · exact Nat.le_trans (hg.gcd.da.len hl.t hg.gcd.t h0) nl
  have wg : Gw C (lnD C g) g := gw_ln hg.gcd.t (by omega)
  have wnil : Gw C (.lst []) [] := ⟨tr_nil, [], ⟨[], .inl rfl, .nil, by decide⟩, rfl, fun x hx => absurd hx (by simp)⟩
  have u1 : S_common C [d, e] (.own (lnD C g)) := sp_common gl go hg.ab
  have u2 : S_common C [e, d] (.own (lnD C g)) := sp_common go gl hg.ba
  have u3 : S_law_common [lpD l, lpD o] (.own (lpD g)) := ⟨_, _, _, rfl, hg.own, by omega, rfl⟩
  have u4 : S_law_is_line C [lnD C g, lpD g] (.val (.bl true)) := ⟨_, _, rfl, rfl, b1.sz b2, by omega, rfl⟩
  have u5 := sp_scaled' (n := 6) gl hpn (hl.sz (by decide)) (sz2.mono (by decide))
  have ls := pScl_len l (((2 + z : Int)) : Rat)
  have ws : Gw C (lnD C (pScl l (((2 + z : Int)) : Rat))) (pScl l (((2 + z : Int)) : Rat)) := gw_ln (pScl_tr _ _) (by omega)
  have u6 : S_common C [lnD C (pScl l (((2 + z : Int)) : Rat)), e] (.own (lnD C g)) := sp_common ws go (hg.scl _ (by omega) (by omega))
  have u7 : S_common C [d, d] (.own (lnD C (led l))) := sp_common gl gl (euc_self hl)
  have u8 : S_common C [d, .lst []] (.own (lnD C (led l))) := sp_common gl wnil (euc_nil hl)
  clear hz hq1 hq hd_ he eP
  show PSD _ _ _ [.own (potD p), .val (lpD l), .val (lpD o), .non, .non, .non, .non] _
  by_cases c0 : g = []
  · obtain ⟨rfl, rfl⟩ := hg.nil hl.t ho.t c0
    subst c0
    repeat ac_rfl
  · have gp := List.length_pos_iff.mpr c0
    have m := hg.gcd.m.resolve_left c0
    obtain ⟨r1, r2⟩ := hg.rem hl.t ho.t c0
    have u9 : S_divided C [d, lnD C g] (.val (.tup [lnD C (quo l g), lnD C []])) := by
      have := sp_div gl wg c0 (goes_fam hl hg.gcd.t m c0 hg.cd)
      rwa [r1] at this
    have u10 : S_divided C [e, lnD C g] (.val (.tup [lnD C (quo o g), lnD C []])) := by
      have := sp_div go wg c0 (goes_fam ho hg.gcd.t m c0 hg.cd)
      rwa [r2] at this
    have ixg : atI (g.map (qD C)) (-1) = some (qD C (((1 : Int)) : Rat)) := by
      rw [atI_ln (ixN_last gp) (by omega)]
      exact congrArg (fun x => some (qD C x)) m
    have e0 : decide ((g.map (qD C)).length = 0) = false := decide_eq_false (by rw [List.length_map]; omega)
    repeat ac_rfl
end
end Dn
end
section
set_option Elab.async false
set_option linter.all false
set_option maxRecDepth 100000
set_option maxHeartbeats 4000000
set_option exponentiation.threshold 10000
namespace Dn
open PySem PySem.Spec L2
/-! ### a shared line comes out of both -/
section
variable {X : Cx} {P : Program} {w : World} {K : PySem.W.Frag} {mg : Str → Option Value} {base : Heap} {N : List Str} {n : Nat} {C : Addr} {l m l' m' : List Rat} {x y : Rat}
theorem b_neT2n (hx : Cxt X P w K mg base N n) (k : Kn4 P w K mg base C) (e : Side (l = l')) (e2 : Side (m = [])) (hk : 3 ≤ n := by decide) : BinD X (compareOp .NotEq) (.tup [lnD C l, lnD C m]) (.tup [lnD C l', .lst []]) (.val (.bl false)) := b_neT2 (m' := []) hx k e e2 hk
theorem b_eqT2n (hx : Cxt X P w K mg base N n) (k : Kn4 P w K mg base C) (e : Side (l = l')) (e2 : Side (m = [])) (hk : 3 ≤ n := by decide) : BinD X (compareOp .Eq) (.tup [lnD C l, lnD C m]) (.tup [lnD C l', .lst []]) (.val (.bl true)) := b_eqT2 (m' := []) hx k e e2 hk
theorem b_eqT2q (hx : Cxt X P w K mg base N n) (k : Kn4 P w K mg base C) (e : Side (l = l')) (e2 : Side (m = [x])) (hk : 3 ≤ n := by decide) : BinD X (compareOp .Eq) (.tup [lnD C l, lnD C m]) (.tup [lnD C l', .lst [qD C x]]) (.val (.bl true)) := b_eqT2 (m' := [x]) hx k e e2 hk
end
structure Sha (a b s g : List Rat) : Prop where
  both : Euc (pMul a s) (pMul b s) (pMul g (led s))
  sn : Euc s [] (led s)
  lg : Lcm60 g
  ll : Lcm60 (led s)
  q1 : quo (pMul a s) s = a
  r1 : rem (pMul a s) s = []
  f1 : ∃ Q, Fam Q s ((pMul a s).length + 1 - s.length) ∧ ∀ x ∈ pMul a s, Q 0 x
  f2 : ∃ Q, Fam Q s ((pAdd (pMul b s) [5]).length + 1 - s.length) ∧ ∀ x ∈ pAdd (pMul b s) [5], Q 0 x
  big : 2 ≤ s.length → quo (pAdd (pMul b s) [5]) s = b ∧ rem (pAdd (pMul b s) [5]) s = [5]
  sml : s.length = 1 → quo (pAdd (pMul b s) [5]) s = pAdd b (pScl [5] (1 / hd s)) ∧ rem (pAdd (pMul b s) [5]) s = []
  sm : ∀ x ∈ pMul b s, Sz 3700 x
theorem qb_5 : Qb 2 24 (((5 : Int)) : Rat) := ⟨180, by decide +kernel, by unfold Bd; decide⟩
theorem sha_of {a b s g : List Rat} (ha : Li a) (hb : Li b) (hs : Li s) (h4 : s.length ≤ 4) (ne : s ≠ []) (hlo : b.length ≤ 6 ∨ a = b) (hg : Com a b g) : Sha a b s g := by
  have z0 := List.length_pos_iff.mpr ne
  have na := ha.n
  have nb := hb.n
  have hne := hd_ne hs.t ne
  have tl := led_tr hs.t
  have l0 : led s ≠ [] := fun e => ne (by have := led_len s; rw [e] at this; exact List.length_eq_zero_iff.mp this.symm)
  obtain ⟨g', c1, -⟩ := chr_of tl l0 (hd_led hs.t ne) (by rw [led_len]; exact h4) (hs.cd.led hs.t ne) ha hb hlo
  have eg : g' = g := c1.gcd.uniq hg.gcd
  subst eg
  have bk := led_back hs.t ne
  have qa : ∀ x ∈ pMul a s, Qb 2 24 x := qb_pMul ha.q hs.q (s := 12) (by omega)
  have qb : ∀ x ∈ pMul b s, Qb 2 24 x := qb_pMul hb.q hs.q (s := 12) (by omega)
  have q5 : ∀ x ∈ [(5 : Rat)], Qb 2 24 x := fun x hx => by rw [List.mem_singleton.mp hx]; exact qb_5
  have qp : ∀ x ∈ pAdd (pMul b s) [5], Qb 2 25 x := qb_pAdd qb q5
  have la := pMul_len a s
  have lb := pMul_len b s
  have lp := pAdd_len (pMul b s) [5]
  have l5 : [(5 : Rat)].length = 1 := rfl
  have fam : ∀ k : List Rat, (∀ x ∈ k, Qb 2 25 x) → k.length ≤ 13 → ∃ Q, Fam Q s (k.length + 1 - s.length) ∧ ∀ x ∈ k, Q 0 x := fun k q hk => by
    obtain ⟨Q, f, hq, -⟩ := gen_fam (N := k.length + 1 - s.length) hs.cd (cd_qbk q (by decide)) z0 hne (by omega) (by decide)
    exact ⟨Q, f, hq⟩
  have d1 : IsDiv (pMul a s) s a [] := ⟨ha.t, tr_nil, z0, fun i => by rw [cf_pMul, cf_ge (l := []) (by simp), Rat.add_zero]⟩
  obtain ⟨d1q, d1r⟩ := d1.quo (pMul_tr _ _) hs.t
  refine ⟨c1.all s s _ _ hne hne bk bk hs.cd hs.cd, euc_nil hs, hg.lcm ha hb, led_lcm hs ne, d1q.symm, d1r.symm, fam _ (fun x hx => (qa x hx).mono (by decide)) (by omega), fam _ qp (by omega), fun h2 => ?_, fun h1 => ?_, fun x hx => (qb x hx).sz (by decide) (by decide)⟩
  · have d : IsDiv (pAdd (pMul b s) [5]) s b [5] := ⟨hb.t, .inr (by decide +kernel), by rw [l5]; omega, fun i => by rw [cf_pAdd, cf_pMul]⟩
    obtain ⟨e1, e2⟩ := d.quo (pAdd_tr _ _) hs.t
    exact ⟨e1.symm, e2.symm⟩
  · have es : s = [hd s] := by
      match s, h1 with
      | [x], _ => rfl
    have ev1 : ∀ y x : Rat, ev [y] x = y := fun y x => by rw [ev_cons, ev_nil]; grind
    have ev_s : ∀ x, ev s x = hd s := fun x => (congrArg (ev · x) es).trans (ev1 _ x)
    have e : pAdd (pMul b s) [5] = pMul (pAdd b (pScl [5] (1 / hd s))) s := ev_ext (pAdd_tr _ _) (pMul_tr _ _) fun x => by
      rw [ev_pAdd, ev_pMul, ev_pMul, ev_pAdd, ev_pScl, ev_s, ev_cons, ev_nil]
      grind
    have d : IsDiv (pAdd (pMul b s) [5]) s (pAdd b (pScl [5] (1 / hd s))) [] := ⟨pAdd_tr _ _, tr_nil, z0, fun i => by rw [e, cf_pMul, cf_ge (l := []) (by simp), Rat.add_zero]⟩
    obtain ⟨e1, e2⟩ := d.quo (pAdd_tr _ _) hs.t
    exact ⟨e1.symm, e2.symm⟩
local macro_rules | `(tactic| eq_refl) => `(tactic| first
  | ((with_reducible change SpG (S_divided _ (pk _ _) _)); exact pk_two (by with_reducible assumption))
  | ((with_reducible change BinD _ (compareOp CmpOp.NotEq) (lnD _ _) (lnD _ _) _); (refine' b_neLn (by assumption) (by assumption) ?_))
  | ((with_reducible change BinD _ (compareOp CmpOp.NotEq) (D.tup [lnD _ _, lnD _ _]) (D.tup [lnD _ _, D.lst []]) _); (refine' b_neT2n (by assumption) (by assumption) ?_ ?_))
  | ((with_reducible change BinD _ (compareOp CmpOp.Eq) (D.tup [lnD _ _, lnD _ _]) (D.tup [lnD _ _, D.lst []]) _); (refine' b_eqT2n (by assumption) (by assumption) ?_ ?_))
  | ((with_reducible change BinD _ (compareOp CmpOp.Eq) (D.tup [lnD _ _, lnD _ _]) (D.tup [lnD _ _, D.lst [qD _ _]]) _); (refine' b_eqT2q (by assumption) (by assumption) ?_ ?_))
  | ((with_reducible change PD _ (Expr.Call (Expr.Attribute _ "over" _) _ _ _) _ _ _); (refine' a_over (by assumption) (by assumption) ?_ ?_ ?_ ?_ ?_))
  | ((with_reducible change PD _ (Expr.Call (Expr.Name "Ratio" _) _ _ _) _ _ _); (refine' a_ratio1 (by assumption) (by assumption) ?_)))
section
variable {P : Program} {w : World} {K : PySem.W.Frag} {mg : Str → Option Value} {base : Heap} {f C : Addr} {fd : FuncData}
def gvN (r : Pot) (a b c : List Rat) : Nat → Pot
  | 0 => r
  | 1 => givP r a
  | 2 => givP (givP r a) b
  | _ => givP (givP (givP r a) b) c
def gv4 (p p1 p2 p3 : Pot) : Nat → Pot
  | 0 => p
  | 1 => p1
  | 2 => p2
  | _ => p3
def shaP (p : Pot) (a b s : List Rat) : Pot := if s = [] ∨ (a = [] ∧ b = []) then p else gvN p a b s 3
def T_shared_right : D → List D → Res → D → Prop := fun c ds r c' => ∃ (p : Pot) (a b s : List Rat), c = potD p ∧ ds = [lpD a, lpD b, lpD s] ∧ p.Ok ∧ Li a ∧ Li b ∧ Li s ∧ s.length ≤ 4 ∧ (b.length ≤ 6 ∨ a = b) ∧ r = .val (.bl true) ∧ c' = potD (shaP p a b s)
theorem ok_law_shared_right (F : FunG K "_law_shared_right" "_law_shared_right" s_law_shared_right f fd) (L : Kn4 P w K mg base C) (c1 : Cal true P w K mg base 6 "_law_given" (spIO K (T_given C)) [])
    (g1 : Cal false P w K mg base 7 "divided" (spD K (S_divided C)) []) (g2 : Cal false P w K mg base 7 "common" (spD K (S_common C)) []) (g4 : Cal false P w K mg base 6 "scaled" (spD K (S_scaled C)) []) (g5 : Cal false P w K mg base 7 "times" (spD K (S_two C cTimes pMul)) []) (g6 : Cal false P w K mg base 7 "plus" (spD K (S_two C cPlus pAdd)) []) (g7 : Cal false P w K mg base 6 "told" (spD K (S_want_line C)) []) (g8 : Cal false P w K mg base 6 "degree" (spD K (S_degree C)) [])
    (cv : Met P w K mg base 4 C "over" (spD K (S_op C (fun x y => y ≠ 0) fun x y => x / y)) []) (mk : Mak P w K mg base 2 "Ratio" C (spIO K (T_init C)) [.int 1]) : FnB true P w K mg base 8 f fd ["_law_pot_here", "_law_one", "_law_other", "_law_shared"] (spIO K T_shared_right) := by
  refine fnAIO F cs_law_shared_right (fun c ds r c' ⟨_, _, _, _, _, h, _⟩ => by rw [h]; rfl) (fun cdv A outer s H hX nog c ds r c' h => ?_)
  obtain ⟨p, l, o, t, rfl, rfl, ok, hl, ho, ht, h4, hlo, rfl, rfl⟩ := h
  show PSD _ _ _ [.own (potD p), .val (lpD l), .val (lpD o), .val (lpD t), .non, .non, .non, .non, .non, .non] _
  unfold shaP
  by_cases ct : t = []
  · have e0 : decide ((t.map qP).length = 0) = true := decide_eq_true (by rw [ct]; rfl)
    rw [if_pos (.inl ct)]
    repeat ac_rfl
  by_cases clo : l = [] ∧ o = []
  · have e0 : decide ((t.map qP).length = 0) = false := decide_eq_false (by rw [List.length_map]; exact fun z => ct (List.length_eq_zero_iff.mp z))
    have e1 : decide ((l.map qP).length = 0) = true := decide_eq_true (by rw [clo.1]; rfl)
    have e2 : decide ((o.map qP).length = 0) = true := decide_eq_true (by rw [clo.2]; rfl)
    rw [if_pos (.inr clo)]
    repeat ac_rfl
  rw [if_neg (fun z => z.elim ct clo)]
  have e0 : decide ((t.map qP).length = 0) = false := decide_eq_false (by rw [List.length_map]; exact fun z => ct (List.length_eq_zero_iff.mp z))
  have key : (decide ((l.map qP).length = 0) = false) ∨ (decide ((l.map qP).length = 0) = true ∧ decide ((o.map qP).length = 0) = false) := by
    by_cases cl : l = []
    · refine .inr ⟨decide_eq_true (by rw [cl]; rfl), decide_eq_false (by rw [List.length_map]; exact fun z => clo ⟨cl, List.length_eq_zero_iff.mp z⟩)⟩
    · exact .inl (decide_eq_false (by rw [List.length_map]; exact fun z => cl (List.length_eq_zero_iff.mp z)))
  have nl := hl.n
  have no := ho.n
  have nt := ht.n
  have tp := List.length_pos_iff.mpr ct
  have ok1 := givP_ok ok l
  have ok2 := givP_ok ok1 o
  have ok3 := givP_ok ok2 t
  have t1 : T_given C (potD p) [lpD l] (.val (givD C p l)) (potD (givP p l)) := ⟨_, _, rfl, rfl, ok, by omega, hl.sz (by decide), rfl, rfl⟩
  have t2 : T_given C (potD (givP p l)) [lpD o] (.val (givD C (givP p l) o)) (potD (givP (givP p l) o)) := ⟨_, _, rfl, rfl, ok1, by omega, ho.sz (by decide), rfl, rfl⟩
  have t3 : T_given C (potD (givP (givP p l) o)) [lpD t] (.val (givD C (givP (givP p l) o) t)) (potD (givP (givP (givP p l) o) t)) := ⟨_, _, rfl, rfl, ok2, by omega, ht.sz (by decide), rfl, rfl⟩
  have gl : Gw C (givD C p l) l := gw_giv ok hl.t (by omega)
  have go : Gw C (givD C (givP p l) o) o := gw_giv ok1 ho.t (by omega)
  have gt : Gw C (givD C (givP (givP p l) o) t) t := gw_giv ok2 ht.t (by omega)
  obtain ⟨d, hd_⟩ : ∃ d, d = givD C p l := ⟨_, rfl⟩
  obtain ⟨e, he⟩ : ∃ e, e = givD C (givP p l) o := ⟨_, rfl⟩
  obtain ⟨u, hu⟩ : ∃ u, u = givD C (givP (givP p l) o) t := ⟨_, rfl⟩
  obtain ⟨p1, hp1⟩ : ∃ q, q = givP p l := ⟨_, rfl⟩
  rw [show gvN p l o t 3 = givP (givP (givP p l) o) t from rfl]
  rw [← hd_] at gl t1
  rw [← hp1] at t1 t2 t3 he hu go gt ok1 ok2 ok3 ⊢
  rw [← he] at go t2
  obtain ⟨p2, hp2⟩ : ∃ q, q = givP p1 o := ⟨_, rfl⟩
  rw [← hp2] at t2 t3 hu gt ok2 ok3 ⊢
  rw [← hu] at gt t3
  obtain ⟨p3, hp3⟩ : ∃ q, q = givP p2 t := ⟨_, rfl⟩
  rw [← hp3] at t3 ok3 ⊢
  obtain ⟨g, hg⟩ := com_of hl ho hlo
  have sh := sha_of hl ho ht h4 ct hlo hg
  have lg : g.length ≤ 9 := by
    by_cases h0 : l = []
    · exact Nat.le_trans (hg.gcd.db.len ho.t hg.gcd.t (fun h1 => clo ⟨h0, h1⟩)) no
    · exact Nat.le_trans (hg.gcd.da.len hl.t hg.gcd.t h0) nl
  have lm1 := pMul_len l t
  have lm2 := pMul_len o t
  have lgl := pMul_len g (led t)
  rw [led_len] at lgl
  have wg : Gw C (lnD C g) g := gw_ln hg.gcd.t (by omega)
  have wl : Gw C (lnD C (led t)) (led t) := gw_ln (led_tr ht.t) (by rw [led_len]; omega)
  have w1 : Gw C (lnD C (pMul l t)) (pMul l t) := gw_ln (pMul_tr _ _) (by omega)
  have w2 : Gw C (lnD C (pMul o t)) (pMul o t) := gw_ln (pMul_tr _ _) (by omega)
  have wnil : Gw C (.lst []) [] := ⟨tr_nil, [], ⟨[], .inl rfl, .nil, by decide⟩, rfl, fun x hx => absurd hx (by simp)⟩
  have w5 : Gw C (.lst [.int 5]) [5] := ⟨.inr (by decide +kernel), [5], ⟨[.int 5], .inl rfl, .cons (.i 5) .nil, by decide⟩, by decide +kernel, fun x hx => .inr hx⟩
  have s5 : ∀ x ∈ [(5 : Rat)], Sz 3700 x := fun x hx => by rw [List.mem_singleton.mp hx]; exact qb_5.sz (by decide) (by decide)
  have v1 := sp_times' gl gt hl.lcm ht.lcm (by unfold degN; omega)
  have v2 := sp_times' go gt ho.lcm ht.lcm (by unfold degN; omega)
  have v3 : S_common C [lnD C (pMul l t), lnD C (pMul o t)] (.own (lnD C (pMul g (led t)))) := sp_common w1 w2 sh.both
  have v4 : S_common C [d, e] (.own (lnD C g)) := sp_common gl go hg.ab
  have v5 : S_common C [u, .lst []] (.own (lnD C (led t))) := sp_common gt wnil sh.sn
  have v6 := sp_times' wg wl sh.lg sh.ll (by unfold degN; rw [led_len]; omega)
  have v7 : S_divided C [lnD C (pMul l t), u] (.val (.tup [lnD C l, lnD C []])) := by
    have := sp_div w1 gt ct sh.f1
    rwa [sh.q1, sh.r1] at this
  have v8 := sp_told' gl
  have v9 := sp_told' go
  have v10 := sp_told' gt
  have v11 := sp_plus' w2 w5 sh.sm s5
  have lp5 := pAdd_len (pMul o t) [5]
  have l51 : [(5 : Rat)].length = 1 := rfl
  have w6 : Gw C (lnD C (pAdd (pMul o t) [5])) (pAdd (pMul o t) [5]) := gw_ln (pAdd_tr _ _) (by omega)
  have v12 := sp_div w6 gt ct sh.f2
  have v13 := sp_degree' gt
  have s0 : hd t ≠ 0 := hd_ne ht.t ct
  have st : Sz 3800 (hd t) := cf_sz (ht.sz (n := 3800) (by decide)) (hn := by decide) _
  have s1 : Sz 3800 (((1 : Int)) : Rat) := ⟨by unfold Bd; decide, by unfold Bd; decide⟩
  clear hd_ he hu hp1 hp2 hp3
  have g40 : gv4 p p1 p2 p3 0 = p := rfl
  have g41 : gv4 p p1 p2 p3 1 = p1 := rfl
  have g42 : gv4 p p1 p2 p3 2 = p2 := rfl
  have g43 : gv4 p p1 p2 p3 3 = p3 := rfl
  repeat ac_rfl
  · rcases key with e1 | ⟨e1, e2⟩
    · exact Or.inl ⟨e1, rfl, rfl⟩
    · refine Or.inr ⟨e1, ?_⟩
      rw [← e2]
      repeat ac_rfl
  repeat ac_rfl
  refine' a_lcN [d, e, u] (fun i => [.own (potD (gv4 p p1 p2 p3 i)), .val (lpD l), .val (lpD o), .val (lpD t), .non, .non, .non, .non, .non, .non]) [.own (potD p3), .val (lpD l), .val (lpD o), .val (lpD t), .non, .non, .non, .non, .non, .non] (by assumption) ?_ ?_ ?_ ?_ ?_ ?_ ?_ ?_ ?_
  repeat ac_rfl
  · intro i z y hz hy
    have hi : i < 3 := (List.getElem?_eq_some_iff.mp hz).1
    have : i = 0 ∨ i = 1 ∨ i = 2 := by omega
    rcases this with rfl | rfl | rfl
    · cases hz
      cases hy
      simp only [Nat.zero_add, Nat.reduceAdd, g40, g41, g42, g43]
      refine' elt_one ?_ ?_ ?_
      repeat ac_rfl
    · cases hz
      cases hy
      simp only [Nat.zero_add, Nat.reduceAdd, g40, g41, g42, g43]
      refine' elt_one ?_ ?_ ?_
      repeat ac_rfl
    · cases hz
      cases hy
      simp only [Nat.zero_add, Nat.reduceAdd, g40, g41, g42, g43]
      refine' elt_one ?_ ?_ ?_
      repeat ac_rfl
  repeat ac_rfl
  by_cases c2 : 2 ≤ t.length
  · obtain ⟨b1, b2⟩ := sh.big c2
    rw [b1, b2]
    refine ifg_t (decide_eq_true (by omega)) ?_
    repeat ac_rfl
  · obtain ⟨b1, b2⟩ := sh.sml (by omega)
    have ixt : atI (t.map (qD C)) 0 = some (qD C (hd t)) := by
      rw [show (0 : Int) = ((0 : Nat) : Int) from rfl, atI_ln (k := 0) (ixN_nat' (by omega)) (by omega)]
      show some (qD C (cf t 0)) = some (qD C (cf t (t.length - 1)))
      rw [show t.length - 1 = 0 by omega]
    have b1 : quo (pAdd (pMul o t) [5]) t = pAdd o (pScl [5] (((1 : Int) : Rat) / hd t)) := b1
    have z1 : Sz 3700 (((1 : Int) : Rat) / hd t) := ht.cd.inv ct ht.t _ (by decide)
    have v14 := sp_scaled' (n := 3700) (f := qD C (((1 : Int) : Rat) / hd t)) w5 (.q _) s5 z1
    have l14 := pScl_len [5] (((1 : Int) : Rat) / hd t)
    have w7 : Gw C (lnD C (pScl [5] (((1 : Int) : Rat) / hd t))) (pScl [5] (((1 : Int) : Rat) / hd t)) := gw_ln (pScl_tr _ _) (by omega)
    have s7 : ∀ x ∈ pScl [5] (((1 : Int) : Rat) / hd t), Sz 3700 x := fun x hx => by
      obtain ⟨i, hi, rfl⟩ := ofF_mem (trim_mem hx)
      have a : Sz 25 (cf [(5 : Rat)] i) := cf_sz (fun x hx => by rw [List.mem_singleton.mp hx]; exact qb_5.sz (by decide) (by decide)) (hn := by decide) i
      exact ((a.mono (n := 1000) (by decide)).mul (ht.cd.inv ct ht.t 1000 (by decide))).mono (by decide)
    have v15 := sp_plus' (n := 3700) go w7 (ho.sz (by decide)) s7
    rw [b1, b2]
    refine ifg_f (decide_eq_false (by omega)) ?_
    repeat ac_rfl
    exact D.non
end
end Dn
end
section
set_option Elab.async false
set_option linter.all false
set_option maxRecDepth 100000
set_option maxHeartbeats 4000000
set_option exponentiation.threshold 10000
namespace Dn
open PySem PySem.Spec L2
theorem numQ_qb6 {p : Pot} (ok : p.Ok) : Qb 1 6 (numQ p 6) := by
  have o := draw_ok (m := 2 * 6 + 1) ok (by omega)
  unfold numQ
  generalize (draw p (2 * 6 + 1)).1 = t at *
  have ht : -6 ≤ t - 6 ∧ t - 6 ≤ 6 := by omega
  generalize t - 6 = u at *
  have h6 : (6 : Int) ^ 1 = 6 := by decide
  rcases botOf_ok (draw (draw p (2 * 6 + 1)).2 5).1 with e | e | e
  · exact ⟨u * 6, by rw [e, h6, show (6 : Int) = 1 * 6 by decide, show u * (1 * 6) = u * 6 by omega, divInt_mul', Rat.divInt_self' (by decide), Rat.mul_one], by unfold Bd; omega⟩
  · exact ⟨u * 3, by rw [e, h6, show (6 : Int) = 2 * 3 by decide, divInt_mul', Rat.divInt_self' (by decide), Rat.mul_one], by unfold Bd; omega⟩
  · exact ⟨u * 2, by rw [e, h6, show (6 : Int) = 3 * 2 by decide, divInt_mul', Rat.divInt_self' (by decide), Rat.mul_one], by unfold Bd; omega⟩
theorem li_line {p : Pot} {m : Int} (ok : p.Ok) (h : 0 ≤ m) (hm : m ≤ 8) : Li (lineL p m) := ⟨lineL_tr p m, fun x hx => by
  have hx := trim_mem hx
  unfold numsL at hx
  obtain ⟨i, _, rfl⟩ := List.mem_map.mp hx
  exact numQ_qb6 (numsP_ok (draw_ok ok (by omega)).2.2 i), by have := lineL_len ok h; omega⟩
theorem li_nil : Li [] := ⟨tr_nil, fun x hx => absurd hx (by simp), by decide⟩
def q32 : Rat := Rat.divInt 3 2
def m2 : Rat := ((-2 : Int) : Rat)
theorem li_32 : Li [q32] := ⟨.inr (by decide +kernel), fun x hx => by rw [List.mem_singleton.mp hx]; exact ⟨9, by decide +kernel, by unfold Bd; decide⟩, by decide⟩
theorem li_m2 : Li [m2] := ⟨.inr (by decide +kernel), fun x hx => by rw [List.mem_singleton.mp hx]; exact ⟨-12, by decide +kernel, by unfold Bd; decide⟩, by decide⟩
theorem q32_D : D.tup [.int 3, .int 2] = qP q32 := by
  have h1 : q32.num = 3 := by unfold q32; decide +kernel
  have h2 : (q32.den : Int) = 2 := by unfold q32; decide +kernel
  unfold qP
  rw [h1, h2]
theorem m2_D : D.tup [.int (-2), .int 1] = qP m2 := (qP_int (-2)).symm
/-- the pair by its number -/
def prs (a b : List Rat) (k : Nat) : List Rat × List Rat := ([([], b), (a, []), ([], []), ([q32], b), (a, [m2]), (a, a)] : List (List Rat × List Rat)).getD k ([], [])
def Pr (a b : List Rat) : Prop := Li a ∧ Li b ∧ (b.length ≤ 6 ∨ a = b)
theorem prs_ok {a b : List Rat} (ha : Li a) (hb : Li b) (h6 : b.length ≤ 6) {k : Nat} (h : k < 6) : Pr (prs a b k).1 (prs a b k).2 := by
  have : k = 0 ∨ k = 1 ∨ k = 2 ∨ k = 3 ∨ k = 4 ∨ k = 5 := by omega
  rcases this with rfl | rfl | rfl | rfl | rfl | rfl
  · exact ⟨li_nil, hb, .inl h6⟩
  · exact ⟨ha, li_nil, .inl (Nat.zero_le _)⟩
  · exact ⟨li_nil, li_nil, .inl (Nat.zero_le _)⟩
  · exact ⟨li_32, hb, .inl h6⟩
  · exact ⟨ha, li_m2, .inl (Nat.le_of_ble_eq_true rfl)⟩
  · exact ⟨ha, ha, .inr rfl⟩
def x0 (p : Pot) : List Rat := lineL p 8
def p1 (p : Pot) : Pot := lineP p 8
def y0 (p : Pot) : List Rat := lineL (p1 p) 5
def p2 (p : Pot) : Pot := lineP (p1 p) 5
def s0 (p : Pot) : List Rat := lineL (p2 p) 3
def p3 (p : Pot) : Pot := lineP (p2 p) 3
def p4 (p : Pot) : Pot := (draw (p3 p) 4).2
def p5 (p : Pot) : Pot := if (draw (p3 p) 4).1 = 0 then (draw (p4 p) 6).2 else p4 p
def xy (p : Pot) : List Rat × List Rat := if (draw (p3 p) 4).1 = 0 then prs (x0 p) (y0 p) (draw (p4 p) 6).1.toNat else (x0 p, y0 p)
def qrP (p : Pot) (a b : List Rat) : Pot := givP (givP p a) b
theorem qrP_ok {p : Pot} (ok : p.Ok) (a b : List Rat) : (qrP p a b).Ok := givP_ok (givP_ok ok a) b
def endP (p : Pot) (a b s : List Rat) : Pot := shaP (comP (comP (qrP (qrP (qrP (qrP (qrP (qrP p a b) b a) a s) a a) b b) s s) a b) b s) a b s
def rEnd (p : Pot) : Pot := endP (p5 p) (xy p).1 (xy p).2 (s0 p)
theorem xy_ok {p : Pot} (ok : p.Ok) : (p5 p).Ok ∧ Pr (xy p).1 (xy p).2 ∧ Li (s0 p) ∧ (s0 p).length ≤ 4 := by
  have o1 : (p1 p).Ok := lineP_ok ok (by decide)
  have o2 : (p2 p).Ok := lineP_ok o1 (by decide)
  have o3 : (p3 p).Ok := lineP_ok o2 (by decide)
  have d4 := draw_ok (m := 4) o3 (by decide)
  have d6 := draw_ok (m := 6) d4.2.2 (by decide)
  have lx : Li (x0 p) := li_line ok (by decide) (by decide)
  have ly : Li (y0 p) := li_line o1 (by decide) (by decide)
  have l6 : ((y0 p).length : Int) ≤ 5 + 1 := lineL_len o1 (by decide)
  have ls : Li (s0 p) := li_line o2 (by decide) (by decide)
  have l4 : ((s0 p).length : Int) ≤ 3 + 1 := lineL_len o2 (by decide)
  refine ⟨?_, ?_, ls, by omega⟩
  · unfold p5
    split
    · exact d6.2.2
    · exact d4.2.2
  · unfold xy
    split
    · exact prs_ok lx ly (by omega) (by have h1 := d6.1; have h2 := d6.2.1; unfold p4; omega)
    · exact ⟨lx, ly, .inl (show (y0 p).length ≤ 6 by omega)⟩
/-- the last question of the law -/
theorem com_21 : Euc [((2 : Int) : Rat)] [((0 : Int) : Rat), ((1 : Int) : Rat)] [1] := by
  have a : Li [((2 : Int) : Rat)] := ⟨.inr (by decide +kernel), fun x hx => by rw [List.mem_singleton.mp hx]; exact ⟨12, by decide +kernel, by unfold Bd; decide⟩, by decide⟩
  have b : Li [((0 : Int) : Rat), ((1 : Int) : Rat)] := ⟨.inr (by decide +kernel), fun x hx => by
    simp only [List.mem_cons, List.not_mem_nil, or_false] at hx
    rcases hx with rfl | rfl
    · exact Qb.zero
    · exact ⟨6, by decide +kernel, by unfold Bd; decide⟩, by decide⟩
  obtain ⟨g, h⟩ := com_of a b (.inl (by decide))
  have e2 : ((2 : Int) : Rat) = 2 := rfl
  have G : Gcd [((2 : Int) : Rat)] [((0 : Int) : Rat), ((1 : Int) : Rat)] [1] := by
    refine ⟨tr_one, .inr (by decide +kernel), ⟨[((2 : Int) : Rat)], fun x => ?_⟩, ⟨[((0 : Int) : Rat), ((1 : Int) : Rat)], fun x => ?_⟩, [1 / 2], [], fun x => ?_⟩
    · simp only [ev_cons, ev_nil]; grind
    · simp only [ev_cons, ev_nil]; grind
    · simp only [ev_cons, ev_nil, e2]; grind
  have e : g = [1] := h.gcd.uniq G
  subst e
  exact h.ab
section
variable {X : Cx} {P : Program} {w : World} {K : PySem.W.Frag} {mg : Str → Option Value} {base : Heap} {N : List Str} {n : Nat} {C : Addr} {l m l' m' : List Rat} {x y : Rat}
theorem b_eqLnQ (hx : Cxt X P w K mg base N n) (k : Kn4 P w K mg base C) (e : Side (l = [x])) (hk : 2 ≤ n := by decide) : BinD X (compareOp .Eq) (lnD C l) (.lst [qD C x]) (.val (.bl true)) := b_eqLn (m := [x]) hx k e hk
end
theorem t_pick {p : Pot} {xs : List D} (ok : p.Ok) (h0 : 0 < xs.length) (h1 : xs.length < 1000) : T_pick (potD p) [.lst xs] (.val (xs.getD (draw p xs.length).1.toNat .non)) (potD (draw p xs.length).2) := by
  have h := draw_ok (m := (xs.length : Int)) ok (by omega)
  refine ⟨p, xs, _, rfl, rfl, ok, h0, h1, ?_, rfl, rfl⟩
  rw [List.getD_eq_getElem?_getD, List.getElem?_eq_getElem (by omega)]
  rfl
local macro_rules | `(tactic| eq_refl) => `(tactic| first
  | ((with_reducible change BinD _ (compareOp CmpOp.Eq) (lnD _ _) (D.lst [qD _ _]) _); (refine' b_eqLnQ (by assumption) (by assumption) ?_))
  | ((with_reducible change PD _ (Expr.Call (Expr.Name "Ratio" _) _ _ _) _ _ _); (refine' a_ratio1 (by assumption) (by assumption) ?_)))
section
variable {P : Program} {w : World} {K : PySem.W.Frag} {mg : Str → Option Value} {base : Heap} {f C : Addr} {fd : FuncData}
def T_right : D → List D → Res → D → Prop := fun c ds r c' => ∃ p : Pot, c = potD p ∧ ds = [] ∧ p.Ok ∧ r = .val (.bl true) ∧ c' = potD (rEnd p)
theorem ok_law_right (F : FunG K "_law_right" "_law_right" s_law_right f fd) (L : Kn4 P w K mg base C) (cd : Cal false P w K mg base 1 "_law_draw" (spIO K T_draw) []) (ck : Cal false P w K mg base 2 "_law_pick" (spIO K T_pick) []) (cl : Cal true P w K mg base 4 "_law_line" (spIO K T_line) []) (cq : Cal true P w K mg base 8 "_law_quotient_right" (spIO K T_quotient_right) []) (cc : Cal true P w K mg base 8 "_law_common_right" (spIO K T_common_right) []) (cs : Cal true P w K mg base 8 "_law_shared_right" (spIO K T_shared_right) []) (g2 : Cal false P w K mg base 7 "common" (spD K (S_common C)) []) (mk : Mak P w K mg base 2 "Ratio" C (spIO K (T_init C)) [.int 1]) : FnB true P w K mg base 9 f fd ["_law_pot_here"] (spIO K T_right) := by
  refine fnAIO F cs_law_right (fun c ds r c' ⟨_, _, h, _⟩ => by rw [h]; rfl) (fun cdv A outer s H hX nog c ds r c' h => ?_)
  obtain ⟨p, rfl, rfl, ok, rfl, rfl⟩ := h
  obtain ⟨o5, ⟨la, lb, hab⟩, ls, l4⟩ := xy_ok ok
  have o1 : (p1 p).Ok := lineP_ok ok (by decide)
  have o2 : (p2 p).Ok := lineP_ok o1 (by decide)
  have o3 : (p3 p).Ok := lineP_ok o2 (by decide)
  have d4 := draw_ok (m := 4) o3 (by decide)
  have d6 := draw_ok (m := 6) (p := p4 p) d4.2.2 (by decide)
  have t1 : T_line (potD p) [.int 8] (.own (lpD (x0 p))) (potD (p1 p)) := ⟨_, _, rfl, rfl, ok, by decide, by decide, rfl, rfl⟩
  have t2 : T_line (potD (p1 p)) [.int 5] (.own (lpD (y0 p))) (potD (p2 p)) := ⟨_, _, rfl, rfl, o1, by decide, by decide, rfl, rfl⟩
  have t3 : T_line (potD (p2 p)) [.int 3] (.own (lpD (s0 p))) (potD (p3 p)) := ⟨_, _, rfl, rfl, o2, by decide, by decide, rfl, rfl⟩
  have t4 : T_draw (potD (p3 p)) [.int 4] (.val (.int (draw (p3 p) 4).1)) (potD (p4 p)) := ⟨_, _, rfl, rfl, o3, by decide, by decide, rfl, rfl⟩
  have pk : ([D.tup [lpD [], lpD (y0 p)], D.tup [lpD (x0 p), lpD []], D.tup [lpD [], lpD []], D.tup [D.lst [D.tup [.int 3, .int 2]], lpD (y0 p)], D.tup [lpD (x0 p), D.lst [D.tup [.int (-2), .int 1]]], D.tup [lpD (x0 p), lpD (x0 p)]] : List D).getD (draw (p4 p) 6).1.toNat .non = D.tup [lpD (prs (x0 p) (y0 p) (draw (p4 p) 6).1.toNat).1, lpD (prs (x0 p) (y0 p) (draw (p4 p) 6).1.toNat).2] := by
    have : (draw (p4 p) 6).1.toNat < 6 := by omega
    generalize (draw (p4 p) 6).1.toNat = k at *
    have : k = 0 ∨ k = 1 ∨ k = 2 ∨ k = 3 ∨ k = 4 ∨ k = 5 := by omega
    rw [q32_D, m2_D]
    rcases this with rfl | rfl | rfl | rfl | rfl | rfl <;> rfl
  have t5 : T_pick (potD (p4 p)) [.lst [D.tup [D.lst [], lpD (y0 p)], D.tup [lpD (x0 p), D.lst []], D.tup [D.lst [], D.lst []], D.tup [D.lst [D.tup [.int 3, .int 2]], lpD (y0 p)], D.tup [lpD (x0 p), D.lst [D.tup [.int (-2), .int 1]]], D.tup [lpD (x0 p), lpD (x0 p)]]] (.val (.tup [lpD (prs (x0 p) (y0 p) (draw (p4 p) 6).1.toNat).1, lpD (prs (x0 p) (y0 p) (draw (p4 p) 6).1.toNat).2])) (potD (draw (p4 p) 6).2) := by
    rw [← pk]
    exact t_pick (p := p4 p) d4.2.2 (Nat.le_of_ble_eq_true rfl) (Nat.le_of_ble_eq_true rfl)
  have w2 : Gw C (.lst [.int 2]) [((2 : Int) : Rat)] := ⟨.inr (by decide +kernel), _, ⟨[.int 2], .inl rfl, .cons (.i 2) .nil, by decide⟩, by decide +kernel, fun x hx => .inr hx⟩
  have w01 : Gw C (.lst [.int 0, .int 1]) [((0 : Int) : Rat), ((1 : Int) : Rat)] := ⟨.inr (by decide +kernel), _, ⟨[.int 0, .int 1], .inl rfl, .cons (.i 0) (.cons (.i 1) .nil), by decide⟩, by decide +kernel, fun x hx => .inr hx⟩
  have vl : S_common C [.lst [.int 2], .lst [.int 0, .int 1]] (.own (lnD C [1])) := sp_common w2 w01 com_21
  show PSD _ _ _ [.own (potD p), .non, .non, .non, .non] _
  repeat ac_rfl
  refine ifg_p (fun ρ' => ∃ s, ρ' = [.own (potD (p5 p)), .val (lpD (xy p).1), .val (lpD (xy p).2), .val (lpD (s0 p)), s]) (fun z => ?_) (fun z => ?_) ?_
  · have z := of_decide_eq_true z
    repeat ac_rfl
    apply Exists.intro
    rw [show p5 p = (draw (p4 p) 6).2 from if_pos z, show xy p = prs (x0 p) (y0 p) (draw (p4 p) 6).1.toNat from if_pos z]
  · have z : ¬ (draw (p3 p) 4).1 = 0 := of_decide_eq_false z
    repeat ac_rfl
    apply Exists.intro
    rw [show p5 p = p4 p from if_neg z, show xy p = (x0 p, y0 p) from if_neg z]
  · rintro ρ' ⟨s, rfl⟩
    rw [show rEnd p = endP (p5 p) (xy p).1 (xy p).2 (s0 p) from rfl]
    obtain ⟨q, hq⟩ : ∃ q, q = p5 p := ⟨_, rfl⟩
    obtain ⟨a, ha⟩ : ∃ a, a = (xy p).1 := ⟨_, rfl⟩
    obtain ⟨b, hb⟩ : ∃ b, b = (xy p).2 := ⟨_, rfl⟩
    obtain ⟨t, ht⟩ : ∃ t, t = s0 p := ⟨_, rfl⟩
    rw [← hq] at o5 ⊢
    rw [← ha] at la hab ⊢
    rw [← hb] at lb hab ⊢
    rw [← ht] at ls l4 ⊢
    have z1 := qrP_ok o5 a b
    have z2 := qrP_ok z1 b a
    have z3 := qrP_ok z2 a t
    have z4 := qrP_ok z3 a a
    have z5 := qrP_ok z4 b b
    have z6 := qrP_ok z5 t t
    have z7 := comP_ok z6 a b
    have z8 := comP_ok z7 b t
    have v1 : T_quotient_right (potD q) [lpD a, lpD b] (.val (.bl true)) (potD (qrP q a b)) := ⟨_, _, _, rfl, rfl, o5, la, lb, rfl, rfl⟩
    have v2 : T_quotient_right (potD (qrP q a b)) [lpD b, lpD a] (.val (.bl true)) (potD (qrP (qrP q a b) b a)) := ⟨_, _, _, rfl, rfl, z1, lb, la, rfl, rfl⟩
    have v3 : T_quotient_right (potD (qrP (qrP q a b) b a)) [lpD a, lpD t] (.val (.bl true)) (potD (qrP (qrP (qrP q a b) b a) a t)) := ⟨_, _, _, rfl, rfl, z2, la, ls, rfl, rfl⟩
    have v4 : T_quotient_right (potD (qrP (qrP (qrP q a b) b a) a t)) [lpD a, lpD a] (.val (.bl true)) (potD (qrP (qrP (qrP (qrP q a b) b a) a t) a a)) := ⟨_, _, _, rfl, rfl, z3, la, la, rfl, rfl⟩
    have v5 : T_quotient_right (potD (qrP (qrP (qrP (qrP q a b) b a) a t) a a)) [lpD b, lpD b] (.val (.bl true)) (potD (qrP (qrP (qrP (qrP (qrP q a b) b a) a t) a a) b b)) := ⟨_, _, _, rfl, rfl, z4, lb, lb, rfl, rfl⟩
    have v6 : T_quotient_right (potD (qrP (qrP (qrP (qrP (qrP q a b) b a) a t) a a) b b)) [lpD t, lpD t] (.val (.bl true)) (potD (qrP (qrP (qrP (qrP (qrP (qrP q a b) b a) a t) a a) b b) t t)) := ⟨_, _, _, rfl, rfl, z5, ls, ls, rfl, rfl⟩
    unfold endP
    obtain ⟨q6, hq6⟩ : ∃ q6, q6 = qrP (qrP (qrP (qrP (qrP (qrP q a b) b a) a t) a a) b b) t t := ⟨_, rfl⟩
    rw [← hq6] at v6 z6 z7 z8 ⊢
    have v7 : T_common_right (potD q6) [lpD a, lpD b] (.val (.bl true)) (potD (comP q6 a b)) := ⟨_, _, _, rfl, rfl, z6, la, lb, hab, rfl, rfl⟩
    have v8 : T_common_right (potD (comP q6 a b)) [lpD b, lpD t] (.val (.bl true)) (potD (comP (comP q6 a b) b t)) := ⟨_, _, _, rfl, rfl, z7, lb, ls, .inl (by omega), rfl, rfl⟩
    obtain ⟨q8, hq8⟩ : ∃ q8, q8 = comP (comP q6 a b) b t := ⟨_, rfl⟩
    rw [← hq8] at v8 z8 ⊢
    have v9 : T_shared_right (potD q8) [lpD a, lpD b, lpD t] (.val (.bl true)) (potD (shaP q8 a b t)) := ⟨_, _, _, _, rfl, rfl, z8, la, lb, ls, l4, hab, rfl, rfl⟩
    clear hq ha hb ht hq6 hq8
    repeat ac_rfl
end
end Dn
end
section
set_option Elab.async false
set_option linter.all false
set_option maxRecDepth 100000
set_option maxHeartbeats 4000000
set_option exponentiation.threshold 10000
namespace Dn
open PySem PySem.Spec L2
section
variable {P : Program} {w : World} {K : PySem.W.Frag} {mg : Str → Option Value} {base : Heap} {f C : Addr} {fd : FuncData}
theorem ok_law (F : FunG K "law" "law" s_law f fd) (cr : Cal true P w K mg base 9 "_law_right" (spIO K T_right) []) (cp : Cal true P w K mg base 1 "_law_pot" (spD K S_pot) []) : FnB true P w K mg base 10 f fd ["_law_script"] (spLaw 63 K) := by
  refine fnD F cs_law (fun ds r ⟨_, h, _⟩ => by rw [h]; rfl) (fun cdv A outer s H hr nog ds r h => ?_)
  obtain ⟨ns, rfl, hl, _, rfl⟩ := h
  exact psd_ret (pd_callT cr hr (pd_call cp hr (pad_cons (pd_var 0) (pad_cons pd_int pad_nil)) ⟨ns, 0, rfl, by omega, rfl⟩ (nog := nog)) ⟨_, rfl, rfl, potOf_ok _ _, rfl, rfl⟩ (nog := nog)) rfl
end
end Dn
end
section
set_option Elab.async false
set_option linter.all false
set_option maxRecDepth 100000
set_option maxHeartbeats 4000000
set_option exponentiation.threshold 10000
namespace Dn
open PySem PySem.Spec L2
theorem cal_of {gd : Bool} {P : Program} {w : World} {K : PySem.W.Frag} {mg : Str → Option Value} {base : Heap} {k : Nat} {x : Str} {f : Addr} {fd : FuncData} {ps : List Str} {sp : Sp} (F : FnB gd P w K mg base k f fd ps sp) (a : mg x = some (.ref f)) (kp : PySem.W.keepIn K (.ref f) = true) (b : Binds K fd ps []) : Cal gd P w K mg base k x sp [] := ⟨f, fd, ps, [], F, a, kp, b, .nil⟩
theorem fnOk_of {P : Program} {w : World} {K : PySem.W.Frag} {mg : Str → Option Value} {base : Heap} {k : Nat} {f : Addr} {fd : FuncData} {ps : List Str} {sp : Sp} (F : FnB false P w K mg base k f fd ps sp) (h : ∀ vs H Q E, sp vs H Q E → sp vs H Q E0 := by exact fun _ _ _ _ h => h) : FnOk P w K mg base CX0 k f fd ps sp := F.ok h
theorem funD_mk {K : PySem.W.Frag} {x qual : Str} {st : Stmt} {f T : Addr} {n : Nat} {t : Tok} {oc cT : Value} {od an dT : Option Addr} {osl oT : Array (Option Value)} {kV doc pm cdv ct : Value} (l : K.lookup f = some ⟨oc, od, .func (PySem.W.fnOf x qual (defArgs st) (defBody st) (defScope st) (.ref T) kV doc pm an cdv ct), osl⟩)
    (c : PySem.W.codeIn K cdv qual = true) (k : PySem.W.keepIn K (.ref f) = true) (lT : K.lookup T = some ⟨cT, dT, .seq #[.int 1 t] n, oT⟩) : FunD K x qual (defArgs st) (defBody st) (defScope st) [.int 1] [] f (PySem.W.fnOf x qual (defArgs st) (defBody st) (defScope st) (.ref T) kV doc pm an cdv ct) :=
  ⟨⟨oc, od, _, kV, doc, pm, an, cdv, ct, osl, rfl, l, c, .inr ⟨by simp, T, _, [.int 1 t], n, rfl, lT, rfl, .cons ⟨t, rfl⟩ .nil⟩, .inl rfl⟩, k⟩
theorem k13_all {l : PySem.W.OpenLaw} {w : World} {K : PySem.W.Frag} {h : Heap} {mg : Str → Option Value} {fa C : Addr} (X : K.In h) (G : h.Ns mainGlobals mg) (hfa : mg "law" = some (.ref fa))
    {tkPART : Tok}
    {fdigits_of : Addr} {oddigits_of andigits_of : Option Addr} {sldigits_of : Array (Option Value)} {ocdigits_of kVdigits_of dcdigits_of pmdigits_of cddigits_of ctdigits_of : Value}
    {fRrepr : Addr} {odRrepr anRrepr : Option Addr} {slRrepr : Array (Option Value)} {ocRrepr kVRrepr dcRrepr pmRrepr cdRrepr ctRrepr : Value}
    {fReq : Addr} {odReq anReq : Option Addr} {slReq : Array (Option Value)} {ocReq kVReq dcReq pmReq cdReq ctReq : Value}
    {flaw_draw : Addr} {odlaw_draw anlaw_draw : Option Addr} {sllaw_draw : Array (Option Value)} {oclaw_draw kVlaw_draw dclaw_draw pmlaw_draw cdlaw_draw ctlaw_draw : Value}
    {flaw_pick : Addr} {odlaw_pick anlaw_pick : Option Addr} {sllaw_pick : Array (Option Value)} {oclaw_pick kVlaw_pick dclaw_pick pmlaw_pick cdlaw_pick ctlaw_pick : Value}
    {flaw_low : Addr} {odlaw_low anlaw_low : Option Addr} {sllaw_low : Array (Option Value)} {oclaw_low kVlaw_low dclaw_low pmlaw_low cdlaw_low ctlaw_low : Value}
    {flaw_number : Addr} {odlaw_number anlaw_number : Option Addr} {sllaw_number : Array (Option Value)} {oclaw_number kVlaw_number dclaw_number pmlaw_number cdlaw_number ctlaw_number : Value}
    {flaw_trim : Addr} {odlaw_trim anlaw_trim : Option Addr} {sllaw_trim : Array (Option Value)} {oclaw_trim kVlaw_trim dclaw_trim pmlaw_trim cdlaw_trim ctlaw_trim : Value}
    {flaw_line : Addr} {odlaw_line anlaw_line : Option Addr} {sllaw_line : Array (Option Value)} {oclaw_line kVlaw_line dclaw_line pmlaw_line cdlaw_line ctlaw_line : Value}
    {tT tn : Nat} {tI : Tok} {tC : Value} {tD : Option Addr} {tS : Array (Option Value)}
    {fis_integer : Addr} {odis_integer anis_integer : Option Addr} {slis_integer : Array (Option Value)} {ocis_integer kVis_integer dcis_integer pmis_integer cdis_integer ctis_integer : Value}
    {fcommon_part : Addr} {odcommon_part ancommon_part : Option Addr} {slcommon_part : Array (Option Value)} {occommon_part kVcommon_part dccommon_part pmcommon_part cdcommon_part ctcommon_part : Value}
    {fRinit : Addr} {odRinit anRinit : Option Addr} {slRinit : Array (Option Value)} {ocRinit kVRinit dcRinit pmRinit cdRinit ctRinit : Value}
    {flaw_ratio : Addr} {odlaw_ratio anlaw_ratio : Option Addr} {sllaw_ratio : Array (Option Value)} {oclaw_ratio kVlaw_ratio dclaw_ratio pmlaw_ratio cdlaw_ratio ctlaw_ratio : Value}
    {flaw_passed : Addr} {odlaw_passed anlaw_passed : Option Addr} {sllaw_passed : Array (Option Value)} {oclaw_passed kVlaw_passed dclaw_passed pmlaw_passed cdlaw_passed ctlaw_passed : Value}
    {flaw_given : Addr} {odlaw_given anlaw_given : Option Addr} {sllaw_given : Array (Option Value)} {oclaw_given kVlaw_given dclaw_given pmlaw_given cdlaw_given ctlaw_given : Value}
    {flaw_over : Addr} {odlaw_over anlaw_over : Option Addr} {sllaw_over : Array (Option Value)} {oclaw_over kVlaw_over dclaw_over pmlaw_over cdlaw_over ctlaw_over : Value}
    {flaw_sum : Addr} {odlaw_sum anlaw_sum : Option Addr} {sllaw_sum : Array (Option Value)} {oclaw_sum kVlaw_sum dclaw_sum pmlaw_sum cdlaw_sum ctlaw_sum : Value}
    {flaw_line_sum : Addr} {odlaw_line_sum anlaw_line_sum : Option Addr} {sllaw_line_sum : Array (Option Value)} {oclaw_line_sum kVlaw_line_sum dclaw_line_sum pmlaw_line_sum cdlaw_line_sum ctlaw_line_sum : Value}
    {flaw_by : Addr} {odlaw_by anlaw_by : Option Addr} {sllaw_by : Array (Option Value)} {oclaw_by kVlaw_by dclaw_by pmlaw_by cdlaw_by ctlaw_by : Value}
    {flaw_line_scaled : Addr} {odlaw_line_scaled anlaw_line_scaled : Option Addr} {sllaw_line_scaled : Array (Option Value)} {oclaw_line_scaled kVlaw_line_scaled dclaw_line_scaled pmlaw_line_scaled cdlaw_line_scaled ctlaw_line_scaled : Value}
    {flaw_divided : Addr} {odlaw_divided anlaw_divided : Option Addr} {sllaw_divided : Array (Option Value)} {oclaw_divided kVlaw_divided dclaw_divided pmlaw_divided cdlaw_divided ctlaw_divided : Value}
    {flaw_is_line : Addr} {odlaw_is_line anlaw_is_line : Option Addr} {sllaw_is_line : Array (Option Value)} {oclaw_is_line kVlaw_is_line dclaw_is_line pmlaw_is_line cdlaw_is_line ctlaw_is_line : Value}
    {fis_list : Addr} {odis_list anis_list : Option Addr} {slis_list : Array (Option Value)} {ocis_list kVis_list dcis_list pmis_list cdis_list ctis_list : Value}
    {fis_number : Addr} {odis_number anis_number : Option Addr} {slis_number : Array (Option Value)} {ocis_number kVis_number dcis_number pmis_number cdis_number ctis_number : Value}
    {tkMOST_LINE : Tok}
    {fis_line : Addr} {odis_line anis_line : Option Addr} {slis_line : Array (Option Value)} {ocis_line kVis_line dcis_line pmis_line cdis_line ctis_line : Value}
    {fratio_of : Addr} {odratio_of anratio_of : Option Addr} {slratio_of : Array (Option Value)} {ocratio_of kVratio_of dcratio_of pmratio_of cdratio_of ctratio_of : Value}
    {ftrimmed : Addr} {odtrimmed antrimmed : Option Addr} {sltrimmed : Array (Option Value)} {octrimmed kVtrimmed dctrimmed pmtrimmed cdtrimmed cttrimmed : Value}
    {fwant_line : Addr} {odwant_line anwant_line : Option Addr} {slwant_line : Array (Option Value)} {ocwant_line kVwant_line dcwant_line pmwant_line cdwant_line ctwant_line : Value}
    {ftwo_lines : Addr} {odtwo_lines antwo_lines : Option Addr} {sltwo_lines : Array (Option Value)} {octwo_lines kVtwo_lines dctwo_lines pmtwo_lines cdtwo_lines cttwo_lines : Value}
    {ftold_pair : Addr} {odtold_pair antold_pair : Option Addr} {sltold_pair : Array (Option Value)} {octold_pair kVtold_pair dctold_pair pmtold_pair cdtold_pair cttold_pair : Value}
    {fRover : Addr} {odRover anRover : Option Addr} {slRover : Array (Option Value)} {ocRover kVRover dcRover pmRover cdRover ctRover : Value}
    {fRsub : Addr} {odRsub anRsub : Option Addr} {slRsub : Array (Option Value)} {ocRsub kVRsub dcRsub pmRsub cdRsub ctRsub : Value}
    {fRmul : Addr} {odRmul anRmul : Option Addr} {slRmul : Array (Option Value)} {ocRmul kVRmul dcRmul pmRmul cdRmul ctRmul : Value}
    {fline_parts : Addr} {odline_parts anline_parts : Option Addr} {slline_parts : Array (Option Value)} {ocline_parts kVline_parts dcline_parts pmline_parts cdline_parts ctline_parts : Value}
    {fdivided : Addr} {oddivided andivided : Option Addr} {sldivided : Array (Option Value)} {ocdivided kVdivided dcdivided pmdivided cddivided ctdivided : Value}
    {fRadd : Addr} {odRadd anRadd : Option Addr} {slRadd : Array (Option Value)} {ocRadd kVRadd dcRadd pmRadd cdRadd ctRadd : Value}
    {fline_sum : Addr} {odline_sum anline_sum : Option Addr} {slline_sum : Array (Option Value)} {ocline_sum kVline_sum dcline_sum pmline_sum cdline_sum ctline_sum : Value}
    {fplus : Addr} {odplus anplus : Option Addr} {slplus : Array (Option Value)} {ocplus kVplus dcplus pmplus cdplus ctplus : Value}
    {fwholes : Addr} {odwholes anwholes : Option Addr} {slwholes : Array (Option Value)} {ocwholes kVwholes dcwholes pmwholes cdwholes ctwholes : Value}
    {fline_over : Addr} {odline_over anline_over : Option Addr} {slline_over : Array (Option Value)} {ocline_over kVline_over dcline_over pmline_over cdline_over ctline_over : Value}
    {fline_product : Addr} {odline_product anline_product : Option Addr} {slline_product : Array (Option Value)} {ocline_product kVline_product dcline_product pmline_product cdline_product ctline_product : Value}
    {fwant_at_most : Addr} {odwant_at_most anwant_at_most : Option Addr} {slwant_at_most : Array (Option Value)} {ocwant_at_most kVwant_at_most dcwant_at_most pmwant_at_most cdwant_at_most ctwant_at_most : Value}
    {fdegree_from_nought : Addr} {oddegree_from_nought andegree_from_nought : Option Addr} {sldegree_from_nought : Array (Option Value)} {ocdegree_from_nought kVdegree_from_nought dcdegree_from_nought pmdegree_from_nought cddegree_from_nought ctdegree_from_nought : Value}
    {ftimes : Addr} {odtimes antimes : Option Addr} {sltimes : Array (Option Value)} {octimes kVtimes dctimes pmtimes cdtimes cttimes : Value}
    {ftold : Addr} {odtold antold : Option Addr} {sltold : Array (Option Value)} {octold kVtold dctold pmtold cdtold cttold : Value}
    {fdegree : Addr} {oddegree andegree : Option Addr} {sldegree : Array (Option Value)} {ocdegree kVdegree dcdegree pmdegree cddegree ctdegree : Value}
    {flaw_quotient_right : Addr} {odlaw_quotient_right anlaw_quotient_right : Option Addr} {sllaw_quotient_right : Array (Option Value)} {oclaw_quotient_right kVlaw_quotient_right dclaw_quotient_right pmlaw_quotient_right cdlaw_quotient_right ctlaw_quotient_right : Value}
    {flaw_common : Addr} {odlaw_common anlaw_common : Option Addr} {sllaw_common : Array (Option Value)} {oclaw_common kVlaw_common dclaw_common pmlaw_common cdlaw_common ctlaw_common : Value}
    {fline_led : Addr} {odline_led anline_led : Option Addr} {slline_led : Array (Option Value)} {ocline_led kVline_led dcline_led pmline_led cdline_led ctline_led : Value}
    {fline_common : Addr} {odline_common anline_common : Option Addr} {slline_common : Array (Option Value)} {ocline_common kVline_common dcline_common pmline_common cdline_common ctline_common : Value}
    {fcommon : Addr} {odcommon ancommon : Option Addr} {slcommon : Array (Option Value)} {occommon kVcommon dccommon pmcommon cdcommon ctcommon : Value}
    {fwant_number : Addr} {odwant_number anwant_number : Option Addr} {slwant_number : Array (Option Value)} {ocwant_number kVwant_number dcwant_number pmwant_number cdwant_number ctwant_number : Value}
    {fline_by : Addr} {odline_by anline_by : Option Addr} {slline_by : Array (Option Value)} {ocline_by kVline_by dcline_by pmline_by cdline_by ctline_by : Value}
    {fscaled : Addr} {odscaled anscaled : Option Addr} {slscaled : Array (Option Value)} {ocscaled kVscaled dcscaled pmscaled cdscaled ctscaled : Value}
    {flaw_common_right : Addr} {odlaw_common_right anlaw_common_right : Option Addr} {sllaw_common_right : Array (Option Value)} {oclaw_common_right kVlaw_common_right dclaw_common_right pmlaw_common_right cdlaw_common_right ctlaw_common_right : Value}
    {flaw_shared_right : Addr} {odlaw_shared_right anlaw_shared_right : Option Addr} {sllaw_shared_right : Array (Option Value)} {oclaw_shared_right kVlaw_shared_right dclaw_shared_right pmlaw_shared_right cdlaw_shared_right ctlaw_shared_right : Value}
    {flaw_right : Addr} {odlaw_right anlaw_right : Option Addr} {sllaw_right : Array (Option Value)} {oclaw_right kVlaw_right dclaw_right pmlaw_right cdlaw_right ctlaw_right : Value}
    {flaw_pot : Addr} {odlaw_pot anlaw_pot : Option Addr} {sllaw_pot : Array (Option Value)} {oclaw_pot kVlaw_pot dclaw_pot pmlaw_pot cdlaw_pot ctlaw_pot : Value}
    {flaw : Addr} {odlaw anlaw : Option Addr} {sllaw : Array (Option Value)} {oclaw kVlaw dclaw pmlaw cdlaw ctlaw : Value}
    (aC : PySem.W.nsIn K mainGlobals "Ratio" = some (some (.ref C)))
    (pg : PySem.W.plainGet K C Str.empty = true)
    (hd : PySem.W.hasDictIn K C = true)
    (po : PySem.W.plainOver K C = true)
    (sa : PySem.W.findIn K (.ref C) "__setattr__" = some (some (.builtin "object.__setattr__")))
    (mk : PySem.W.makesIn K C = true)
    (kc : PySem.W.keepIn K (.ref C) = true)
    (nT : PySem.W.findIn K (.ref C) "own_top" = some none)
    (nB : PySem.W.findIn K (.ref C) "own_bottom" = some none)
    (ca : PySem.W.findIn K (.ref C) "__class__" = some (some (.builtin "object.__class__")))
    (cn : PySem.W.specialIn K (.builtin "object.__class__") "__get__" = some (some (.builtin "getset_descriptor.__get__")))
    (ct : PySem.W.takesIn K (.builtin "object.__class__") = some true)
    (cm : PySem.W.mroIn K C (.type "object") = some true)
    (oi : PySem.W.kitOne K (.ref C) (.type "int") = some false)
    (oo : PySem.W.kitOne K (.ref C) (.ref C) = some true)
    (io : PySem.W.kitOne K (.type "int") (.ref C) = some false)
    (ii : PySem.W.kitOne K (.type "int") (.type "int") = some true)
    (ib : PySem.W.kitOne K (.type "int") (.type "bool") = some false)
    (ne : PySem.W.findIn K (.ref C) "__ne__" = some (some (.builtin "object.__ne__")))
    (nfo : PySem.W.notFirst K C (.ref C) = true)
    (zisinstance : PySem.W.nsIn K mainGlobals "isinstance" = some none)
    (zint : PySem.W.nsIn K mainGlobals "int" = some none)
    (zbool : PySem.W.nsIn K mainGlobals "bool" = some none)
    (zabs : PySem.W.nsIn K mainGlobals "abs" = some none)
    (zstr : PySem.W.nsIn K mainGlobals "str" = some none)
    (zlist : PySem.W.nsIn K mainGlobals "list" = some none)
    (ztuple : PySem.W.nsIn K mainGlobals "tuple" = some none)
    (aPART : PySem.W.nsIn K mainGlobals "PART" = some (some (.int (10 ^ 60) tkPART)))
    (adigits_of : PySem.W.nsIn K mainGlobals "digits_of" = some (some (.ref fdigits_of)))
    (ldigits_of : K.lookup fdigits_of = some ⟨ocdigits_of, oddigits_of, .func (PySem.W.fnOf "digits_of" "digits_of" (defArgs s_digits_of) (defBody s_digits_of) (defScope s_digits_of) .none kVdigits_of dcdigits_of pmdigits_of andigits_of cddigits_of ctdigits_of), sldigits_of⟩)
    (cdigits_of : PySem.W.codeIn K cddigits_of "digits_of" = true)
    (kdigits_of : PySem.W.keepIn K (.ref fdigits_of) = true)
    (aRrepr : PySem.W.findIn K (.ref C) "__repr__" = some (some (.ref fRrepr)))
    (iRrepr : PySem.W.isFn K (.ref fRrepr) = true)
    (lRrepr : K.lookup fRrepr = some ⟨ocRrepr, odRrepr, .func (PySem.W.fnOf "__repr__" "Ratio.__repr__" (defArgs s_Ratio_repr) (defBody s_Ratio_repr) (defScope s_Ratio_repr) .none kVRrepr dcRrepr pmRrepr anRrepr cdRrepr ctRrepr), slRrepr⟩)
    (cRrepr : PySem.W.codeIn K cdRrepr "Ratio.__repr__" = true)
    (kRrepr : PySem.W.keepIn K (.ref fRrepr) = true)
    (aReq : PySem.W.findIn K (.ref C) "__eq__" = some (some (.ref fReq)))
    (iReq : PySem.W.isFn K (.ref fReq) = true)
    (lReq : K.lookup fReq = some ⟨ocReq, odReq, .func (PySem.W.fnOf "__eq__" "Ratio.__eq__" (defArgs s_Ratio_eq) (defBody s_Ratio_eq) (defScope s_Ratio_eq) .none kVReq dcReq pmReq anReq cdReq ctReq), slReq⟩)
    (cReq : PySem.W.codeIn K cdReq "Ratio.__eq__" = true)
    (kReq : PySem.W.keepIn K (.ref fReq) = true)
    (zdivmod : PySem.W.nsIn K mainGlobals "divmod" = some none)
    (alaw_draw : PySem.W.nsIn K mainGlobals "_law_draw" = some (some (.ref flaw_draw)))
    (llaw_draw : K.lookup flaw_draw = some ⟨oclaw_draw, odlaw_draw, .func (PySem.W.fnOf "_law_draw" "_law_draw" (defArgs s_law_draw) (defBody s_law_draw) (defScope s_law_draw) .none kVlaw_draw dclaw_draw pmlaw_draw anlaw_draw cdlaw_draw ctlaw_draw), sllaw_draw⟩)
    (claw_draw : PySem.W.codeIn K cdlaw_draw "_law_draw" = true)
    (klaw_draw : PySem.W.keepIn K (.ref flaw_draw) = true)
    (zlen : PySem.W.nsIn K mainGlobals "len" = some none)
    (alaw_pick : PySem.W.nsIn K mainGlobals "_law_pick" = some (some (.ref flaw_pick)))
    (llaw_pick : K.lookup flaw_pick = some ⟨oclaw_pick, odlaw_pick, .func (PySem.W.fnOf "_law_pick" "_law_pick" (defArgs s_law_pick) (defBody s_law_pick) (defScope s_law_pick) .none kVlaw_pick dclaw_pick pmlaw_pick anlaw_pick cdlaw_pick ctlaw_pick), sllaw_pick⟩)
    (claw_pick : PySem.W.codeIn K cdlaw_pick "_law_pick" = true)
    (klaw_pick : PySem.W.keepIn K (.ref flaw_pick) = true)
    (alaw_low : PySem.W.nsIn K mainGlobals "_law_low" = some (some (.ref flaw_low)))
    (llaw_low : K.lookup flaw_low = some ⟨oclaw_low, odlaw_low, .func (PySem.W.fnOf "_law_low" "_law_low" (defArgs s_law_low) (defBody s_law_low) (defScope s_law_low) .none kVlaw_low dclaw_low pmlaw_low anlaw_low cdlaw_low ctlaw_low), sllaw_low⟩)
    (claw_low : PySem.W.codeIn K cdlaw_low "_law_low" = true)
    (klaw_low : PySem.W.keepIn K (.ref flaw_low) = true)
    (alaw_number : PySem.W.nsIn K mainGlobals "_law_number" = some (some (.ref flaw_number)))
    (llaw_number : K.lookup flaw_number = some ⟨oclaw_number, odlaw_number, .func (PySem.W.fnOf "_law_number" "_law_number" (defArgs s_law_number) (defBody s_law_number) (defScope s_law_number) .none kVlaw_number dclaw_number pmlaw_number anlaw_number cdlaw_number ctlaw_number), sllaw_number⟩)
    (claw_number : PySem.W.codeIn K cdlaw_number "_law_number" = true)
    (klaw_number : PySem.W.keepIn K (.ref flaw_number) = true)
    (alaw_trim : PySem.W.nsIn K mainGlobals "_law_trim" = some (some (.ref flaw_trim)))
    (llaw_trim : K.lookup flaw_trim = some ⟨oclaw_trim, odlaw_trim, .func (PySem.W.fnOf "_law_trim" "_law_trim" (defArgs s_law_trim) (defBody s_law_trim) (defScope s_law_trim) .none kVlaw_trim dclaw_trim pmlaw_trim anlaw_trim cdlaw_trim ctlaw_trim), sllaw_trim⟩)
    (claw_trim : PySem.W.codeIn K cdlaw_trim "_law_trim" = true)
    (klaw_trim : PySem.W.keepIn K (.ref flaw_trim) = true)
    (zrange : PySem.W.nsIn K mainGlobals "range" = some none)
    (alaw_line : PySem.W.nsIn K mainGlobals "_law_line" = some (some (.ref flaw_line)))
    (llaw_line : K.lookup flaw_line = some ⟨oclaw_line, odlaw_line, .func (PySem.W.fnOf "_law_line" "_law_line" (defArgs s_law_line) (defBody s_law_line) (defScope s_law_line) .none kVlaw_line dclaw_line pmlaw_line anlaw_line cdlaw_line ctlaw_line), sllaw_line⟩)
    (claw_line : PySem.W.codeIn K cdlaw_line "_law_line" = true)
    (klaw_line : PySem.W.keepIn K (.ref flaw_line) = true)
    (ais_integer : PySem.W.nsIn K mainGlobals "is_integer" = some (some (.ref fis_integer)))
    (lis_integer : K.lookup fis_integer = some ⟨ocis_integer, odis_integer, .func (PySem.W.fnOf "is_integer" "is_integer" (defArgs s_is_integer) (defBody s_is_integer) (defScope s_is_integer) .none kVis_integer dcis_integer pmis_integer anis_integer cdis_integer ctis_integer), slis_integer⟩)
    (cis_integer : PySem.W.codeIn K cdis_integer "is_integer" = true)
    (kis_integer : PySem.W.keepIn K (.ref fis_integer) = true)
    (agcd : PySem.W.nsIn K mainGlobals "gcd" = some (some (.builtin "math.gcd")))
    (acommon_part : PySem.W.nsIn K mainGlobals "common_part" = some (some (.ref fcommon_part)))
    (lcommon_part : K.lookup fcommon_part = some ⟨occommon_part, odcommon_part, .func (PySem.W.fnOf "common_part" "common_part" (defArgs s_common_part) (defBody s_common_part) (defScope s_common_part) .none kVcommon_part dccommon_part pmcommon_part ancommon_part cdcommon_part ctcommon_part), slcommon_part⟩)
    (ccommon_part : PySem.W.codeIn K cdcommon_part "common_part" = true)
    (kcommon_part : PySem.W.keepIn K (.ref fcommon_part) = true)
    (aRinit : PySem.W.findIn K (.ref C) "__init__" = some (some (.ref fRinit)))
    (iRinit : PySem.W.isFn K (.ref fRinit) = true)
    (lRinit : K.lookup fRinit = some ⟨ocRinit, odRinit, .func (PySem.W.fnOf "__init__" "Ratio.__init__" (defArgs s_Ratio_init) (defBody s_Ratio_init) (defScope s_Ratio_init) (.ref tT) kVRinit dcRinit pmRinit anRinit cdRinit ctRinit), slRinit⟩)
    (lT : K.lookup tT = some ⟨tC, tD, .seq #[.int 1 tI] tn, tS⟩)
    (cRinit : PySem.W.codeIn K cdRinit "Ratio.__init__" = true)
    (kRinit : PySem.W.keepIn K (.ref fRinit) = true)
    (alaw_ratio : PySem.W.nsIn K mainGlobals "_law_ratio" = some (some (.ref flaw_ratio)))
    (llaw_ratio : K.lookup flaw_ratio = some ⟨oclaw_ratio, odlaw_ratio, .func (PySem.W.fnOf "_law_ratio" "_law_ratio" (defArgs s_law_ratio) (defBody s_law_ratio) (defScope s_law_ratio) .none kVlaw_ratio dclaw_ratio pmlaw_ratio anlaw_ratio cdlaw_ratio ctlaw_ratio), sllaw_ratio⟩)
    (claw_ratio : PySem.W.codeIn K cdlaw_ratio "_law_ratio" = true)
    (klaw_ratio : PySem.W.keepIn K (.ref flaw_ratio) = true)
    (alaw_passed : PySem.W.nsIn K mainGlobals "_law_passed" = some (some (.ref flaw_passed)))
    (llaw_passed : K.lookup flaw_passed = some ⟨oclaw_passed, odlaw_passed, .func (PySem.W.fnOf "_law_passed" "_law_passed" (defArgs s_law_passed) (defBody s_law_passed) (defScope s_law_passed) .none kVlaw_passed dclaw_passed pmlaw_passed anlaw_passed cdlaw_passed ctlaw_passed), sllaw_passed⟩)
    (claw_passed : PySem.W.codeIn K cdlaw_passed "_law_passed" = true)
    (klaw_passed : PySem.W.keepIn K (.ref flaw_passed) = true)
    (alaw_given : PySem.W.nsIn K mainGlobals "_law_given" = some (some (.ref flaw_given)))
    (llaw_given : K.lookup flaw_given = some ⟨oclaw_given, odlaw_given, .func (PySem.W.fnOf "_law_given" "_law_given" (defArgs s_law_given) (defBody s_law_given) (defScope s_law_given) .none kVlaw_given dclaw_given pmlaw_given anlaw_given cdlaw_given ctlaw_given), sllaw_given⟩)
    (claw_given : PySem.W.codeIn K cdlaw_given "_law_given" = true)
    (klaw_given : PySem.W.keepIn K (.ref flaw_given) = true)
    (alaw_over : PySem.W.nsIn K mainGlobals "_law_over" = some (some (.ref flaw_over)))
    (llaw_over : K.lookup flaw_over = some ⟨oclaw_over, odlaw_over, .func (PySem.W.fnOf "_law_over" "_law_over" (defArgs s_law_over) (defBody s_law_over) (defScope s_law_over) .none kVlaw_over dclaw_over pmlaw_over anlaw_over cdlaw_over ctlaw_over), sllaw_over⟩)
    (claw_over : PySem.W.codeIn K cdlaw_over "_law_over" = true)
    (klaw_over : PySem.W.keepIn K (.ref flaw_over) = true)
    (alaw_sum : PySem.W.nsIn K mainGlobals "_law_sum" = some (some (.ref flaw_sum)))
    (llaw_sum : K.lookup flaw_sum = some ⟨oclaw_sum, odlaw_sum, .func (PySem.W.fnOf "_law_sum" "_law_sum" (defArgs s_law_sum) (defBody s_law_sum) (defScope s_law_sum) .none kVlaw_sum dclaw_sum pmlaw_sum anlaw_sum cdlaw_sum ctlaw_sum), sllaw_sum⟩)
    (claw_sum : PySem.W.codeIn K cdlaw_sum "_law_sum" = true)
    (klaw_sum : PySem.W.keepIn K (.ref flaw_sum) = true)
    (zmax : PySem.W.nsIn K mainGlobals "max" = some none)
    (alaw_line_sum : PySem.W.nsIn K mainGlobals "_law_line_sum" = some (some (.ref flaw_line_sum)))
    (llaw_line_sum : K.lookup flaw_line_sum = some ⟨oclaw_line_sum, odlaw_line_sum, .func (PySem.W.fnOf "_law_line_sum" "_law_line_sum" (defArgs s_law_line_sum) (defBody s_law_line_sum) (defScope s_law_line_sum) .none kVlaw_line_sum dclaw_line_sum pmlaw_line_sum anlaw_line_sum cdlaw_line_sum ctlaw_line_sum), sllaw_line_sum⟩)
    (claw_line_sum : PySem.W.codeIn K cdlaw_line_sum "_law_line_sum" = true)
    (klaw_line_sum : PySem.W.keepIn K (.ref flaw_line_sum) = true)
    (alaw_by : PySem.W.nsIn K mainGlobals "_law_by" = some (some (.ref flaw_by)))
    (llaw_by : K.lookup flaw_by = some ⟨oclaw_by, odlaw_by, .func (PySem.W.fnOf "_law_by" "_law_by" (defArgs s_law_by) (defBody s_law_by) (defScope s_law_by) .none kVlaw_by dclaw_by pmlaw_by anlaw_by cdlaw_by ctlaw_by), sllaw_by⟩)
    (claw_by : PySem.W.codeIn K cdlaw_by "_law_by" = true)
    (klaw_by : PySem.W.keepIn K (.ref flaw_by) = true)
    (alaw_line_scaled : PySem.W.nsIn K mainGlobals "_law_line_scaled" = some (some (.ref flaw_line_scaled)))
    (llaw_line_scaled : K.lookup flaw_line_scaled = some ⟨oclaw_line_scaled, odlaw_line_scaled, .func (PySem.W.fnOf "_law_line_scaled" "_law_line_scaled" (defArgs s_law_line_scaled) (defBody s_law_line_scaled) (defScope s_law_line_scaled) .none kVlaw_line_scaled dclaw_line_scaled pmlaw_line_scaled anlaw_line_scaled cdlaw_line_scaled ctlaw_line_scaled), sllaw_line_scaled⟩)
    (claw_line_scaled : PySem.W.codeIn K cdlaw_line_scaled "_law_line_scaled" = true)
    (klaw_line_scaled : PySem.W.keepIn K (.ref flaw_line_scaled) = true)
    (alaw_divided : PySem.W.nsIn K mainGlobals "_law_divided" = some (some (.ref flaw_divided)))
    (llaw_divided : K.lookup flaw_divided = some ⟨oclaw_divided, odlaw_divided, .func (PySem.W.fnOf "_law_divided" "_law_divided" (defArgs s_law_divided) (defBody s_law_divided) (defScope s_law_divided) .none kVlaw_divided dclaw_divided pmlaw_divided anlaw_divided cdlaw_divided ctlaw_divided), sllaw_divided⟩)
    (claw_divided : PySem.W.codeIn K cdlaw_divided "_law_divided" = true)
    (klaw_divided : PySem.W.keepIn K (.ref flaw_divided) = true)
    (qkitOneKtypelisttypelistsometrue : PySem.W.kitOne K (.type "list") (.type "list") = some true)
    (zrepr : PySem.W.nsIn K mainGlobals "repr" = some none)
    (alaw_is_line : PySem.W.nsIn K mainGlobals "_law_is_line" = some (some (.ref flaw_is_line)))
    (llaw_is_line : K.lookup flaw_is_line = some ⟨oclaw_is_line, odlaw_is_line, .func (PySem.W.fnOf "_law_is_line" "_law_is_line" (defArgs s_law_is_line) (defBody s_law_is_line) (defScope s_law_is_line) .none kVlaw_is_line dclaw_is_line pmlaw_is_line anlaw_is_line cdlaw_is_line ctlaw_is_line), sllaw_is_line⟩)
    (claw_is_line : PySem.W.codeIn K cdlaw_is_line "_law_is_line" = true)
    (klaw_is_line : PySem.W.keepIn K (.ref flaw_is_line) = true)
    (qkitAnyKtypelisttypelisttypetuplesometrue : PySem.W.kitAny K (.type "list") [.type "list", .type "tuple"] = some true)
    (qkitAnyKtypetupletypelisttypetuplesometrue : PySem.W.kitAny K (.type "tuple") [.type "list", .type "tuple"] = some true)
    (ais_list : PySem.W.nsIn K mainGlobals "is_list" = some (some (.ref fis_list)))
    (lis_list : K.lookup fis_list = some ⟨ocis_list, odis_list, .func (PySem.W.fnOf "is_list" "is_list" (defArgs s_is_list) (defBody s_is_list) (defScope s_is_list) .none kVis_list dcis_list pmis_list anis_list cdis_list ctis_list), slis_list⟩)
    (cis_list : PySem.W.codeIn K cdis_list "is_list" = true)
    (kis_list : PySem.W.keepIn K (.ref fis_list) = true)
    (ais_number : PySem.W.nsIn K mainGlobals "is_number" = some (some (.ref fis_number)))
    (lis_number : K.lookup fis_number = some ⟨ocis_number, odis_number, .func (PySem.W.fnOf "is_number" "is_number" (defArgs s_is_number) (defBody s_is_number) (defScope s_is_number) .none kVis_number dcis_number pmis_number anis_number cdis_number ctis_number), slis_number⟩)
    (cis_number : PySem.W.codeIn K cdis_number "is_number" = true)
    (kis_number : PySem.W.keepIn K (.ref fis_number) = true)
    (aMOST_LINE : PySem.W.nsIn K mainGlobals "MOST_LINE" = some (some (.int 30 tkMOST_LINE)))
    (zall : PySem.W.nsIn K mainGlobals "all" = some none)
    (ais_line : PySem.W.nsIn K mainGlobals "is_line" = some (some (.ref fis_line)))
    (lis_line : K.lookup fis_line = some ⟨ocis_line, odis_line, .func (PySem.W.fnOf "is_line" "is_line" (defArgs s_is_line) (defBody s_is_line) (defScope s_is_line) .none kVis_line dcis_line pmis_line anis_line cdis_line ctis_line), slis_line⟩)
    (cis_line : PySem.W.codeIn K cdis_line "is_line" = true)
    (kis_line : PySem.W.keepIn K (.ref fis_line) = true)
    (aratio_of : PySem.W.nsIn K mainGlobals "ratio_of" = some (some (.ref fratio_of)))
    (lratio_of : K.lookup fratio_of = some ⟨ocratio_of, odratio_of, .func (PySem.W.fnOf "ratio_of" "ratio_of" (defArgs s_ratio_of) (defBody s_ratio_of) (defScope s_ratio_of) .none kVratio_of dcratio_of pmratio_of anratio_of cdratio_of ctratio_of), slratio_of⟩)
    (cratio_of : PySem.W.codeIn K cdratio_of "ratio_of" = true)
    (kratio_of : PySem.W.keepIn K (.ref fratio_of) = true)
    (atrimmed : PySem.W.nsIn K mainGlobals "trimmed" = some (some (.ref ftrimmed)))
    (ltrimmed : K.lookup ftrimmed = some ⟨octrimmed, odtrimmed, .func (PySem.W.fnOf "trimmed" "trimmed" (defArgs s_trimmed) (defBody s_trimmed) (defScope s_trimmed) .none kVtrimmed dctrimmed pmtrimmed antrimmed cdtrimmed cttrimmed), sltrimmed⟩)
    (ctrimmed : PySem.W.codeIn K cdtrimmed "trimmed" = true)
    (ktrimmed : PySem.W.keepIn K (.ref ftrimmed) = true)
    (awant_line : PySem.W.nsIn K mainGlobals "want_line" = some (some (.ref fwant_line)))
    (lwant_line : K.lookup fwant_line = some ⟨ocwant_line, odwant_line, .func (PySem.W.fnOf "want_line" "want_line" (defArgs s_want_line) (defBody s_want_line) (defScope s_want_line) .none kVwant_line dcwant_line pmwant_line anwant_line cdwant_line ctwant_line), slwant_line⟩)
    (cwant_line : PySem.W.codeIn K cdwant_line "want_line" = true)
    (kwant_line : PySem.W.keepIn K (.ref fwant_line) = true)
    (atwo_lines : PySem.W.nsIn K mainGlobals "two_lines" = some (some (.ref ftwo_lines)))
    (ltwo_lines : K.lookup ftwo_lines = some ⟨octwo_lines, odtwo_lines, .func (PySem.W.fnOf "two_lines" "two_lines" (defArgs s_two_lines) (defBody s_two_lines) (defScope s_two_lines) .none kVtwo_lines dctwo_lines pmtwo_lines antwo_lines cdtwo_lines cttwo_lines), sltwo_lines⟩)
    (ctwo_lines : PySem.W.codeIn K cdtwo_lines "two_lines" = true)
    (ktwo_lines : PySem.W.keepIn K (.ref ftwo_lines) = true)
    (atold_pair : PySem.W.nsIn K mainGlobals "told_pair" = some (some (.ref ftold_pair)))
    (ltold_pair : K.lookup ftold_pair = some ⟨octold_pair, odtold_pair, .func (PySem.W.fnOf "told_pair" "told_pair" (defArgs s_told_pair) (defBody s_told_pair) (defScope s_told_pair) .none kVtold_pair dctold_pair pmtold_pair antold_pair cdtold_pair cttold_pair), sltold_pair⟩)
    (ctold_pair : PySem.W.codeIn K cdtold_pair "told_pair" = true)
    (ktold_pair : PySem.W.keepIn K (.ref ftold_pair) = true)
    (aRover : PySem.W.findIn K (.ref C) "over" = some (some (.ref fRover)))
    (iRover : PySem.W.isFn K (.ref fRover) = true)
    (lRover : K.lookup fRover = some ⟨ocRover, odRover, .func (PySem.W.fnOf "over" "Ratio.over" (defArgs s_Ratio_over) (defBody s_Ratio_over) (defScope s_Ratio_over) .none kVRover dcRover pmRover anRover cdRover ctRover), slRover⟩)
    (cRover : PySem.W.codeIn K cdRover "Ratio.over" = true)
    (kRover : PySem.W.keepIn K (.ref fRover) = true)
    (aRsub : PySem.W.findIn K (.ref C) "__sub__" = some (some (.ref fRsub)))
    (iRsub : PySem.W.isFn K (.ref fRsub) = true)
    (lRsub : K.lookup fRsub = some ⟨ocRsub, odRsub, .func (PySem.W.fnOf "__sub__" "Ratio.__sub__" (defArgs s_Ratio_sub) (defBody s_Ratio_sub) (defScope s_Ratio_sub) .none kVRsub dcRsub pmRsub anRsub cdRsub ctRsub), slRsub⟩)
    (cRsub : PySem.W.codeIn K cdRsub "Ratio.__sub__" = true)
    (kRsub : PySem.W.keepIn K (.ref fRsub) = true)
    (sf : PySem.W.selfFirst K C = true)
    (aRmul : PySem.W.findIn K (.ref C) "__mul__" = some (some (.ref fRmul)))
    (iRmul : PySem.W.isFn K (.ref fRmul) = true)
    (lRmul : K.lookup fRmul = some ⟨ocRmul, odRmul, .func (PySem.W.fnOf "__mul__" "Ratio.__mul__" (defArgs s_Ratio_mul) (defBody s_Ratio_mul) (defScope s_Ratio_mul) .none kVRmul dcRmul pmRmul anRmul cdRmul ctRmul), slRmul⟩)
    (cRmul : PySem.W.codeIn K cdRmul "Ratio.__mul__" = true)
    (kRmul : PySem.W.keepIn K (.ref fRmul) = true)
    (aline_parts : PySem.W.nsIn K mainGlobals "line_parts" = some (some (.ref fline_parts)))
    (lline_parts : K.lookup fline_parts = some ⟨ocline_parts, odline_parts, .func (PySem.W.fnOf "line_parts" "line_parts" (defArgs s_line_parts) (defBody s_line_parts) (defScope s_line_parts) .none kVline_parts dcline_parts pmline_parts anline_parts cdline_parts ctline_parts), slline_parts⟩)
    (cline_parts : PySem.W.codeIn K cdline_parts "line_parts" = true)
    (kline_parts : PySem.W.keepIn K (.ref fline_parts) = true)
    (adivided : PySem.W.nsIn K mainGlobals "divided" = some (some (.ref fdivided)))
    (ldivided : K.lookup fdivided = some ⟨ocdivided, oddivided, .func (PySem.W.fnOf "divided" "divided" (defArgs s_divided) (defBody s_divided) (defScope s_divided) .none kVdivided dcdivided pmdivided andivided cddivided ctdivided), sldivided⟩)
    (cdivided : PySem.W.codeIn K cddivided "divided" = true)
    (kdivided : PySem.W.keepIn K (.ref fdivided) = true)
    (aRadd : PySem.W.findIn K (.ref C) "__add__" = some (some (.ref fRadd)))
    (iRadd : PySem.W.isFn K (.ref fRadd) = true)
    (lRadd : K.lookup fRadd = some ⟨ocRadd, odRadd, .func (PySem.W.fnOf "__add__" "Ratio.__add__" (defArgs s_Ratio_add) (defBody s_Ratio_add) (defScope s_Ratio_add) .none kVRadd dcRadd pmRadd anRadd cdRadd ctRadd), slRadd⟩)
    (cRadd : PySem.W.codeIn K cdRadd "Ratio.__add__" = true)
    (kRadd : PySem.W.keepIn K (.ref fRadd) = true)
    (aline_sum : PySem.W.nsIn K mainGlobals "line_sum" = some (some (.ref fline_sum)))
    (lline_sum : K.lookup fline_sum = some ⟨ocline_sum, odline_sum, .func (PySem.W.fnOf "line_sum" "line_sum" (defArgs s_line_sum) (defBody s_line_sum) (defScope s_line_sum) .none kVline_sum dcline_sum pmline_sum anline_sum cdline_sum ctline_sum), slline_sum⟩)
    (cline_sum : PySem.W.codeIn K cdline_sum "line_sum" = true)
    (kline_sum : PySem.W.keepIn K (.ref fline_sum) = true)
    (aplus : PySem.W.nsIn K mainGlobals "plus" = some (some (.ref fplus)))
    (lplus : K.lookup fplus = some ⟨ocplus, odplus, .func (PySem.W.fnOf "plus" "plus" (defArgs s_plus) (defBody s_plus) (defScope s_plus) .none kVplus dcplus pmplus anplus cdplus ctplus), slplus⟩)
    (cplus : PySem.W.codeIn K cdplus "plus" = true)
    (kplus : PySem.W.keepIn K (.ref fplus) = true)
    (alcm : PySem.W.nsIn K mainGlobals "lcm" = some (some (.builtin "math.lcm")))
    (awholes : PySem.W.nsIn K mainGlobals "wholes" = some (some (.ref fwholes)))
    (lwholes : K.lookup fwholes = some ⟨ocwholes, odwholes, .func (PySem.W.fnOf "wholes" "wholes" (defArgs s_wholes) (defBody s_wholes) (defScope s_wholes) .none kVwholes dcwholes pmwholes anwholes cdwholes ctwholes), slwholes⟩)
    (cwholes : PySem.W.codeIn K cdwholes "wholes" = true)
    (kwholes : PySem.W.keepIn K (.ref fwholes) = true)
    (aline_over : PySem.W.nsIn K mainGlobals "line_over" = some (some (.ref fline_over)))
    (lline_over : K.lookup fline_over = some ⟨ocline_over, odline_over, .func (PySem.W.fnOf "line_over" "line_over" (defArgs s_line_over) (defBody s_line_over) (defScope s_line_over) .none kVline_over dcline_over pmline_over anline_over cdline_over ctline_over), slline_over⟩)
    (cline_over : PySem.W.codeIn K cdline_over "line_over" = true)
    (kline_over : PySem.W.keepIn K (.ref fline_over) = true)
    (zenumerate : PySem.W.nsIn K mainGlobals "enumerate" = some none)
    (aline_product : PySem.W.nsIn K mainGlobals "line_product" = some (some (.ref fline_product)))
    (lline_product : K.lookup fline_product = some ⟨ocline_product, odline_product, .func (PySem.W.fnOf "line_product" "line_product" (defArgs s_line_product) (defBody s_line_product) (defScope s_line_product) .none kVline_product dcline_product pmline_product anline_product cdline_product ctline_product), slline_product⟩)
    (cline_product : PySem.W.codeIn K cdline_product "line_product" = true)
    (kline_product : PySem.W.keepIn K (.ref fline_product) = true)
    (awant_at_most : PySem.W.nsIn K mainGlobals "want_at_most" = some (some (.ref fwant_at_most)))
    (lwant_at_most : K.lookup fwant_at_most = some ⟨ocwant_at_most, odwant_at_most, .func (PySem.W.fnOf "want_at_most" "want_at_most" (defArgs s_want_at_most) (defBody s_want_at_most) (defScope s_want_at_most) .none kVwant_at_most dcwant_at_most pmwant_at_most anwant_at_most cdwant_at_most ctwant_at_most), slwant_at_most⟩)
    (cwant_at_most : PySem.W.codeIn K cdwant_at_most "want_at_most" = true)
    (kwant_at_most : PySem.W.keepIn K (.ref fwant_at_most) = true)
    (adegree_from_nought : PySem.W.nsIn K mainGlobals "degree_from_nought" = some (some (.ref fdegree_from_nought)))
    (ldegree_from_nought : K.lookup fdegree_from_nought = some ⟨ocdegree_from_nought, oddegree_from_nought, .func (PySem.W.fnOf "degree_from_nought" "degree_from_nought" (defArgs s_degree_from_nought) (defBody s_degree_from_nought) (defScope s_degree_from_nought) .none kVdegree_from_nought dcdegree_from_nought pmdegree_from_nought andegree_from_nought cddegree_from_nought ctdegree_from_nought), sldegree_from_nought⟩)
    (cdegree_from_nought : PySem.W.codeIn K cddegree_from_nought "degree_from_nought" = true)
    (kdegree_from_nought : PySem.W.keepIn K (.ref fdegree_from_nought) = true)
    (atimes : PySem.W.nsIn K mainGlobals "times" = some (some (.ref ftimes)))
    (ltimes : K.lookup ftimes = some ⟨octimes, odtimes, .func (PySem.W.fnOf "times" "times" (defArgs s_times) (defBody s_times) (defScope s_times) .none kVtimes dctimes pmtimes antimes cdtimes cttimes), sltimes⟩)
    (ctimes : PySem.W.codeIn K cdtimes "times" = true)
    (ktimes : PySem.W.keepIn K (.ref ftimes) = true)
    (atold : PySem.W.nsIn K mainGlobals "told" = some (some (.ref ftold)))
    (ltold : K.lookup ftold = some ⟨octold, odtold, .func (PySem.W.fnOf "told" "told" (defArgs s_told) (defBody s_told) (defScope s_told) .none kVtold dctold pmtold antold cdtold cttold), sltold⟩)
    (ctold : PySem.W.codeIn K cdtold "told" = true)
    (ktold : PySem.W.keepIn K (.ref ftold) = true)
    (adegree : PySem.W.nsIn K mainGlobals "degree" = some (some (.ref fdegree)))
    (ldegree : K.lookup fdegree = some ⟨ocdegree, oddegree, .func (PySem.W.fnOf "degree" "degree" (defArgs s_degree) (defBody s_degree) (defScope s_degree) .none kVdegree dcdegree pmdegree andegree cddegree ctdegree), sldegree⟩)
    (cdegree : PySem.W.codeIn K cddegree "degree" = true)
    (kdegree : PySem.W.keepIn K (.ref fdegree) = true)
    (qkitOneKtypetupletypetuplesometrue : PySem.W.kitOne K (.type "tuple") (.type "tuple") = some true)
    (alaw_quotient_right : PySem.W.nsIn K mainGlobals "_law_quotient_right" = some (some (.ref flaw_quotient_right)))
    (llaw_quotient_right : K.lookup flaw_quotient_right = some ⟨oclaw_quotient_right, odlaw_quotient_right, .func (PySem.W.fnOf "_law_quotient_right" "_law_quotient_right" (defArgs s_law_quotient_right) (defBody s_law_quotient_right) (defScope s_law_quotient_right) .none kVlaw_quotient_right dclaw_quotient_right pmlaw_quotient_right anlaw_quotient_right cdlaw_quotient_right ctlaw_quotient_right), sllaw_quotient_right⟩)
    (claw_quotient_right : PySem.W.codeIn K cdlaw_quotient_right "_law_quotient_right" = true)
    (klaw_quotient_right : PySem.W.keepIn K (.ref flaw_quotient_right) = true)
    (alaw_common : PySem.W.nsIn K mainGlobals "_law_common" = some (some (.ref flaw_common)))
    (llaw_common : K.lookup flaw_common = some ⟨oclaw_common, odlaw_common, .func (PySem.W.fnOf "_law_common" "_law_common" (defArgs s_law_common) (defBody s_law_common) (defScope s_law_common) .none kVlaw_common dclaw_common pmlaw_common anlaw_common cdlaw_common ctlaw_common), sllaw_common⟩)
    (claw_common : PySem.W.codeIn K cdlaw_common "_law_common" = true)
    (klaw_common : PySem.W.keepIn K (.ref flaw_common) = true)
    (aline_led : PySem.W.nsIn K mainGlobals "line_led" = some (some (.ref fline_led)))
    (lline_led : K.lookup fline_led = some ⟨ocline_led, odline_led, .func (PySem.W.fnOf "line_led" "line_led" (defArgs s_line_led) (defBody s_line_led) (defScope s_line_led) .none kVline_led dcline_led pmline_led anline_led cdline_led ctline_led), slline_led⟩)
    (cline_led : PySem.W.codeIn K cdline_led "line_led" = true)
    (kline_led : PySem.W.keepIn K (.ref fline_led) = true)
    (aline_common : PySem.W.nsIn K mainGlobals "line_common" = some (some (.ref fline_common)))
    (lline_common : K.lookup fline_common = some ⟨ocline_common, odline_common, .func (PySem.W.fnOf "line_common" "line_common" (defArgs s_line_common) (defBody s_line_common) (defScope s_line_common) .none kVline_common dcline_common pmline_common anline_common cdline_common ctline_common), slline_common⟩)
    (cline_common : PySem.W.codeIn K cdline_common "line_common" = true)
    (kline_common : PySem.W.keepIn K (.ref fline_common) = true)
    (acommon : PySem.W.nsIn K mainGlobals "common" = some (some (.ref fcommon)))
    (lcommon : K.lookup fcommon = some ⟨occommon, odcommon, .func (PySem.W.fnOf "common" "common" (defArgs s_common) (defBody s_common) (defScope s_common) .none kVcommon dccommon pmcommon ancommon cdcommon ctcommon), slcommon⟩)
    (ccommon : PySem.W.codeIn K cdcommon "common" = true)
    (kcommon : PySem.W.keepIn K (.ref fcommon) = true)
    (awant_number : PySem.W.nsIn K mainGlobals "want_number" = some (some (.ref fwant_number)))
    (lwant_number : K.lookup fwant_number = some ⟨ocwant_number, odwant_number, .func (PySem.W.fnOf "want_number" "want_number" (defArgs s_want_number) (defBody s_want_number) (defScope s_want_number) .none kVwant_number dcwant_number pmwant_number anwant_number cdwant_number ctwant_number), slwant_number⟩)
    (cwant_number : PySem.W.codeIn K cdwant_number "want_number" = true)
    (kwant_number : PySem.W.keepIn K (.ref fwant_number) = true)
    (aline_by : PySem.W.nsIn K mainGlobals "line_by" = some (some (.ref fline_by)))
    (lline_by : K.lookup fline_by = some ⟨ocline_by, odline_by, .func (PySem.W.fnOf "line_by" "line_by" (defArgs s_line_by) (defBody s_line_by) (defScope s_line_by) .none kVline_by dcline_by pmline_by anline_by cdline_by ctline_by), slline_by⟩)
    (cline_by : PySem.W.codeIn K cdline_by "line_by" = true)
    (kline_by : PySem.W.keepIn K (.ref fline_by) = true)
    (ascaled : PySem.W.nsIn K mainGlobals "scaled" = some (some (.ref fscaled)))
    (lscaled : K.lookup fscaled = some ⟨ocscaled, odscaled, .func (PySem.W.fnOf "scaled" "scaled" (defArgs s_scaled) (defBody s_scaled) (defScope s_scaled) .none kVscaled dcscaled pmscaled anscaled cdscaled ctscaled), slscaled⟩)
    (cscaled : PySem.W.codeIn K cdscaled "scaled" = true)
    (kscaled : PySem.W.keepIn K (.ref fscaled) = true)
    (alaw_common_right : PySem.W.nsIn K mainGlobals "_law_common_right" = some (some (.ref flaw_common_right)))
    (llaw_common_right : K.lookup flaw_common_right = some ⟨oclaw_common_right, odlaw_common_right, .func (PySem.W.fnOf "_law_common_right" "_law_common_right" (defArgs s_law_common_right) (defBody s_law_common_right) (defScope s_law_common_right) .none kVlaw_common_right dclaw_common_right pmlaw_common_right anlaw_common_right cdlaw_common_right ctlaw_common_right), sllaw_common_right⟩)
    (claw_common_right : PySem.W.codeIn K cdlaw_common_right "_law_common_right" = true)
    (klaw_common_right : PySem.W.keepIn K (.ref flaw_common_right) = true)
    (alaw_shared_right : PySem.W.nsIn K mainGlobals "_law_shared_right" = some (some (.ref flaw_shared_right)))
    (llaw_shared_right : K.lookup flaw_shared_right = some ⟨oclaw_shared_right, odlaw_shared_right, .func (PySem.W.fnOf "_law_shared_right" "_law_shared_right" (defArgs s_law_shared_right) (defBody s_law_shared_right) (defScope s_law_shared_right) .none kVlaw_shared_right dclaw_shared_right pmlaw_shared_right anlaw_shared_right cdlaw_shared_right ctlaw_shared_right), sllaw_shared_right⟩)
    (claw_shared_right : PySem.W.codeIn K cdlaw_shared_right "_law_shared_right" = true)
    (klaw_shared_right : PySem.W.keepIn K (.ref flaw_shared_right) = true)
    (alaw_right : PySem.W.nsIn K mainGlobals "_law_right" = some (some (.ref flaw_right)))
    (llaw_right : K.lookup flaw_right = some ⟨oclaw_right, odlaw_right, .func (PySem.W.fnOf "_law_right" "_law_right" (defArgs s_law_right) (defBody s_law_right) (defScope s_law_right) .none kVlaw_right dclaw_right pmlaw_right anlaw_right cdlaw_right ctlaw_right), sllaw_right⟩)
    (claw_right : PySem.W.codeIn K cdlaw_right "_law_right" = true)
    (klaw_right : PySem.W.keepIn K (.ref flaw_right) = true)
    (alaw_pot : PySem.W.nsIn K mainGlobals "_law_pot" = some (some (.ref flaw_pot)))
    (llaw_pot : K.lookup flaw_pot = some ⟨oclaw_pot, odlaw_pot, .func (PySem.W.fnOf "_law_pot" "_law_pot" (defArgs s_law_pot) (defBody s_law_pot) (defScope s_law_pot) .none kVlaw_pot dclaw_pot pmlaw_pot anlaw_pot cdlaw_pot ctlaw_pot), sllaw_pot⟩)
    (claw_pot : PySem.W.codeIn K cdlaw_pot "_law_pot" = true)
    (klaw_pot : PySem.W.keepIn K (.ref flaw_pot) = true)
    (alaw : PySem.W.nsIn K mainGlobals "law" = some (some (.ref flaw)))
    (llaw : K.lookup flaw = some ⟨oclaw, odlaw, .func (PySem.W.fnOf "law" "law" (defArgs s_law) (defBody s_law) (defScope s_law) .none kVlaw dclaw pmlaw anlaw cdlaw ctlaw), sllaw⟩)
    (claw : PySem.W.codeIn K cdlaw "law" = true)
    (klaw : PySem.W.keepIn K (.ref flaw) = true)
    : ∃ fd : FuncData, (∀ (s : Shared) (v : Value), BindsTo s fd ⟨[v], []⟩ [("_law_script", v)]) ∧ ∀ base : Heap, K.In base → base.Ns mainGlobals mg → FnB true l.prog w K mg base 10 fa fd ["_law_script"] (spLaw 63 K) := by
  have e := hfa.symm.trans (PySem.W.mg_of X G alaw)
  cases e
  have Fdigits_of := fun_mk (st := s_digits_of) ldigits_of cdigits_of kdigits_of
  have bdigits_of := Fdigits_of.binds (ps := ["number"]) fun _ _ _ _ _ _ us hl => match us, hl with | [_], _ => rfl
  have gdigits_of := PySem.W.mg_of X G adigits_of
  have FRrepr := fun_mk (st := s_Ratio_repr) lRrepr cRrepr kRrepr
  have bRrepr := FRrepr.binds (ps := ["self"]) fun _ _ _ _ _ _ us hl => match us, hl with | [_], _ => rfl
  have FReq := fun_mk (st := s_Ratio_eq) lReq cReq kReq
  have bReq := FReq.binds (ps := ["self", "other"]) fun _ _ _ _ _ _ us hl => match us, hl with | [_, _], _ => rfl
  have Flaw_draw := fun_mk (st := s_law_draw) llaw_draw claw_draw klaw_draw
  have blaw_draw := Flaw_draw.binds (ps := ["_law_pot_here", "_law_many"]) fun _ _ _ _ _ _ us hl => match us, hl with | [_, _], _ => rfl
  have glaw_draw := PySem.W.mg_of X G alaw_draw
  have Flaw_pick := fun_mk (st := s_law_pick) llaw_pick claw_pick klaw_pick
  have blaw_pick := Flaw_pick.binds (ps := ["_law_pot_here", "_law_some"]) fun _ _ _ _ _ _ us hl => match us, hl with | [_, _], _ => rfl
  have glaw_pick := PySem.W.mg_of X G alaw_pick
  have Flaw_low := fun_mk (st := s_law_low) llaw_low claw_low klaw_low
  have blaw_low := Flaw_low.binds (ps := ["_law_top", "_law_bottom"]) fun _ _ _ _ _ _ us hl => match us, hl with | [_, _], _ => rfl
  have glaw_low := PySem.W.mg_of X G alaw_low
  have Flaw_number := fun_mk (st := s_law_number) llaw_number claw_number klaw_number
  have blaw_number := Flaw_number.binds (ps := ["_law_pot_here", "_law_most"]) fun _ _ _ _ _ _ us hl => match us, hl with | [_, _], _ => rfl
  have glaw_number := PySem.W.mg_of X G alaw_number
  have Flaw_trim := fun_mk (st := s_law_trim) llaw_trim claw_trim klaw_trim
  have blaw_trim := Flaw_trim.binds (ps := ["_law_line_here"]) fun _ _ _ _ _ _ us hl => match us, hl with | [_], _ => rfl
  have glaw_trim := PySem.W.mg_of X G alaw_trim
  have Flaw_line := fun_mk (st := s_law_line) llaw_line claw_line klaw_line
  have blaw_line := Flaw_line.binds (ps := ["_law_pot_here", "_law_most"]) fun _ _ _ _ _ _ us hl => match us, hl with | [_, _], _ => rfl
  have glaw_line := PySem.W.mg_of X G alaw_line
  have Fis_integer := fun_mk (st := s_is_integer) lis_integer cis_integer kis_integer
  have bis_integer := Fis_integer.binds (ps := ["value"]) fun _ _ _ _ _ _ us hl => match us, hl with | [_], _ => rfl
  have gis_integer := PySem.W.mg_of X G ais_integer
  have Fcommon_part := fun_mk (st := s_common_part) lcommon_part ccommon_part kcommon_part
  have bcommon_part := Fcommon_part.binds (ps := ["one", "other"]) fun _ _ _ _ _ _ us hl => match us, hl with | [_, _], _ => rfl
  have gcommon_part := PySem.W.mg_of X G acommon_part
  have FRinit := funD_mk (st := s_Ratio_init) lRinit cRinit kRinit lT
  obtain ⟨i1, iv1, ib1⟩ := FRinit.binds1 (ps := ["self", "top", "bottom"]) 2 0 (by simp) rfl fun _ _ _ _ _ _ _ us its hl h2 => match us, hl, its, h2 with | [_, _], _, [_], _ => ⟨_, rfl, rfl⟩
  obtain ⟨i2, iv2, ib2⟩ := FRinit.binds1 (ps := ["self", "top", "bottom"]) 3 1 (by simp) rfl fun _ _ _ _ _ _ _ us its hl h2 => match us, hl, its, h2 with | [_, _, _], _, [_], _ => ⟨_, rfl, rfl⟩
  have Flaw_ratio := fun_mk (st := s_law_ratio) llaw_ratio claw_ratio klaw_ratio
  have blaw_ratio := Flaw_ratio.binds (ps := ["_law_pair"]) fun _ _ _ _ _ _ us hl => match us, hl with | [_], _ => rfl
  have glaw_ratio := PySem.W.mg_of X G alaw_ratio
  have Flaw_passed := fun_mk (st := s_law_passed) llaw_passed claw_passed klaw_passed
  have blaw_passed := Flaw_passed.binds (ps := ["_law_pot_here", "_law_pair"]) fun _ _ _ _ _ _ us hl => match us, hl with | [_, _], _ => rfl
  have glaw_passed := PySem.W.mg_of X G alaw_passed
  have Flaw_given := fun_mk (st := s_law_given) llaw_given claw_given klaw_given
  have blaw_given := Flaw_given.binds (ps := ["_law_pot_here", "_law_line_here"]) fun _ _ _ _ _ _ us hl => match us, hl with | [_, _], _ => rfl
  have glaw_given := PySem.W.mg_of X G alaw_given
  have Flaw_over := fun_mk (st := s_law_over) llaw_over claw_over klaw_over
  have blaw_over := Flaw_over.binds (ps := ["_law_one", "_law_other"]) fun _ _ _ _ _ _ us hl => match us, hl with | [_, _], _ => rfl
  have glaw_over := PySem.W.mg_of X G alaw_over
  have Flaw_sum := fun_mk (st := s_law_sum) llaw_sum claw_sum klaw_sum
  have blaw_sum := Flaw_sum.binds (ps := ["_law_one", "_law_other"]) fun _ _ _ _ _ _ us hl => match us, hl with | [_, _], _ => rfl
  have glaw_sum := PySem.W.mg_of X G alaw_sum
  have Flaw_line_sum := fun_mk (st := s_law_line_sum) llaw_line_sum claw_line_sum klaw_line_sum
  have blaw_line_sum := Flaw_line_sum.binds (ps := ["_law_one", "_law_other"]) fun _ _ _ _ _ _ us hl => match us, hl with | [_, _], _ => rfl
  have glaw_line_sum := PySem.W.mg_of X G alaw_line_sum
  have Flaw_by := fun_mk (st := s_law_by) llaw_by claw_by klaw_by
  have blaw_by := Flaw_by.binds (ps := ["_law_one", "_law_other"]) fun _ _ _ _ _ _ us hl => match us, hl with | [_, _], _ => rfl
  have glaw_by := PySem.W.mg_of X G alaw_by
  have Flaw_line_scaled := fun_mk (st := s_law_line_scaled) llaw_line_scaled claw_line_scaled klaw_line_scaled
  have blaw_line_scaled := Flaw_line_scaled.binds (ps := ["_law_one", "_law_number_here"]) fun _ _ _ _ _ _ us hl => match us, hl with | [_, _], _ => rfl
  have glaw_line_scaled := PySem.W.mg_of X G alaw_line_scaled
  have Flaw_divided := fun_mk (st := s_law_divided) llaw_divided claw_divided klaw_divided
  have blaw_divided := Flaw_divided.binds (ps := ["_law_line_here", "_law_other"]) fun _ _ _ _ _ _ us hl => match us, hl with | [_, _], _ => rfl
  have glaw_divided := PySem.W.mg_of X G alaw_divided
  have Flaw_is_line := fun_mk (st := s_law_is_line) llaw_is_line claw_is_line klaw_is_line
  have blaw_is_line := Flaw_is_line.binds (ps := ["_law_kept", "_law_line_here"]) fun _ _ _ _ _ _ us hl => match us, hl with | [_, _], _ => rfl
  have glaw_is_line := PySem.W.mg_of X G alaw_is_line
  have Fis_list := fun_mk (st := s_is_list) lis_list cis_list kis_list
  have bis_list := Fis_list.binds (ps := ["value"]) fun _ _ _ _ _ _ us hl => match us, hl with | [_], _ => rfl
  have gis_list := PySem.W.mg_of X G ais_list
  have Fis_number := fun_mk (st := s_is_number) lis_number cis_number kis_number
  have bis_number := Fis_number.binds (ps := ["value"]) fun _ _ _ _ _ _ us hl => match us, hl with | [_], _ => rfl
  have gis_number := PySem.W.mg_of X G ais_number
  have Fis_line := fun_mk (st := s_is_line) lis_line cis_line kis_line
  have bis_line := Fis_line.binds (ps := ["value"]) fun _ _ _ _ _ _ us hl => match us, hl with | [_], _ => rfl
  have gis_line := PySem.W.mg_of X G ais_line
  have Fratio_of := fun_mk (st := s_ratio_of) lratio_of cratio_of kratio_of
  have bratio_of := Fratio_of.binds (ps := ["number"]) fun _ _ _ _ _ _ us hl => match us, hl with | [_], _ => rfl
  have gratio_of := PySem.W.mg_of X G aratio_of
  have Ftrimmed := fun_mk (st := s_trimmed) ltrimmed ctrimmed ktrimmed
  have btrimmed := Ftrimmed.binds (ps := ["ratios"]) fun _ _ _ _ _ _ us hl => match us, hl with | [_], _ => rfl
  have gtrimmed := PySem.W.mg_of X G atrimmed
  have Fwant_line := fun_mk (st := s_want_line) lwant_line cwant_line kwant_line
  have bwant_line := Fwant_line.binds (ps := ["value"]) fun _ _ _ _ _ _ us hl => match us, hl with | [_], _ => rfl
  have gwant_line := PySem.W.mg_of X G awant_line
  have Ftwo_lines := fun_mk (st := s_two_lines) ltwo_lines ctwo_lines ktwo_lines
  have btwo_lines := Ftwo_lines.binds (ps := ["line", "other"]) fun _ _ _ _ _ _ us hl => match us, hl with | [_, _], _ => rfl
  have gtwo_lines := PySem.W.mg_of X G atwo_lines
  have Ftold_pair := fun_mk (st := s_told_pair) ltold_pair ctold_pair ktold_pair
  have btold_pair := Ftold_pair.binds (ps := ["value"]) fun _ _ _ _ _ _ us hl => match us, hl with | [_], _ => rfl
  have gtold_pair := PySem.W.mg_of X G atold_pair
  have FRover := fun_mk (st := s_Ratio_over) lRover cRover kRover
  have bRover := FRover.binds (ps := ["self", "other"]) fun _ _ _ _ _ _ us hl => match us, hl with | [_, _], _ => rfl
  have FRsub := fun_mk (st := s_Ratio_sub) lRsub cRsub kRsub
  have bRsub := FRsub.binds (ps := ["self", "other"]) fun _ _ _ _ _ _ us hl => match us, hl with | [_, _], _ => rfl
  have FRmul := fun_mk (st := s_Ratio_mul) lRmul cRmul kRmul
  have bRmul := FRmul.binds (ps := ["self", "other"]) fun _ _ _ _ _ _ us hl => match us, hl with | [_, _], _ => rfl
  have Fline_parts := fun_mk (st := s_line_parts) lline_parts cline_parts kline_parts
  have bline_parts := Fline_parts.binds (ps := ["one", "other"]) fun _ _ _ _ _ _ us hl => match us, hl with | [_, _], _ => rfl
  have gline_parts := PySem.W.mg_of X G aline_parts
  have Fdivided := fun_mk (st := s_divided) ldivided cdivided kdivided
  have bdivided := Fdivided.binds (ps := ["line", "other"]) fun _ _ _ _ _ _ us hl => match us, hl with | [_, _], _ => rfl
  have gdivided := PySem.W.mg_of X G adivided
  have kbdivided : KBp K _ ["line", "other"] 0 ["other", "line"] [1, 0] := kbp_of Fdivided fun _ _ _ _ _ _ us ws h1 h2 => match us, h1, ws, h2 with | [], _, [_, _], _ => rfl
  have FRadd := fun_mk (st := s_Ratio_add) lRadd cRadd kRadd
  have bRadd := FRadd.binds (ps := ["self", "other"]) fun _ _ _ _ _ _ us hl => match us, hl with | [_, _], _ => rfl
  have Fline_sum := fun_mk (st := s_line_sum) lline_sum cline_sum kline_sum
  have bline_sum := Fline_sum.binds (ps := ["one", "other"]) fun _ _ _ _ _ _ us hl => match us, hl with | [_, _], _ => rfl
  have gline_sum := PySem.W.mg_of X G aline_sum
  have Fplus := fun_mk (st := s_plus) lplus cplus kplus
  have bplus := Fplus.binds (ps := ["line", "other"]) fun _ _ _ _ _ _ us hl => match us, hl with | [_, _], _ => rfl
  have gplus := PySem.W.mg_of X G aplus
  have Fwholes := fun_mk (st := s_wholes) lwholes cwholes kwholes
  have bwholes := Fwholes.binds (ps := ["ratios"]) fun _ _ _ _ _ _ us hl => match us, hl with | [_], _ => rfl
  have gwholes := PySem.W.mg_of X G awholes
  have Fline_over := fun_mk (st := s_line_over) lline_over cline_over kline_over
  have bline_over := Fline_over.binds (ps := ["tops", "bottom"]) fun _ _ _ _ _ _ us hl => match us, hl with | [_, _], _ => rfl
  have gline_over := PySem.W.mg_of X G aline_over
  have Fline_product := fun_mk (st := s_line_product) lline_product cline_product kline_product
  have bline_product := Fline_product.binds (ps := ["one", "other"]) fun _ _ _ _ _ _ us hl => match us, hl with | [_, _], _ => rfl
  have gline_product := PySem.W.mg_of X G aline_product
  have Fwant_at_most := fun_mk (st := s_want_at_most) lwant_at_most cwant_at_most kwant_at_most
  have bwant_at_most := Fwant_at_most.binds (ps := ["what", "limit", "number"]) fun _ _ _ _ _ _ us hl => match us, hl with | [_, _, _], _ => rfl
  have gwant_at_most := PySem.W.mg_of X G awant_at_most
  have Fdegree_from_nought := fun_mk (st := s_degree_from_nought) ldegree_from_nought cdegree_from_nought kdegree_from_nought
  have bdegree_from_nought := Fdegree_from_nought.binds (ps := ["line"]) fun _ _ _ _ _ _ us hl => match us, hl with | [_], _ => rfl
  have gdegree_from_nought := PySem.W.mg_of X G adegree_from_nought
  have Ftimes := fun_mk (st := s_times) ltimes ctimes ktimes
  have btimes := Ftimes.binds (ps := ["line", "other"]) fun _ _ _ _ _ _ us hl => match us, hl with | [_, _], _ => rfl
  have gtimes := PySem.W.mg_of X G atimes
  have Ftold := fun_mk (st := s_told) ltold ctold ktold
  have btold := Ftold.binds (ps := ["line"]) fun _ _ _ _ _ _ us hl => match us, hl with | [_], _ => rfl
  have gtold := PySem.W.mg_of X G atold
  have Fdegree := fun_mk (st := s_degree) ldegree cdegree kdegree
  have bdegree := Fdegree.binds (ps := ["line"]) fun _ _ _ _ _ _ us hl => match us, hl with | [_], _ => rfl
  have gdegree := PySem.W.mg_of X G adegree
  have Flaw_quotient_right := fun_mk (st := s_law_quotient_right) llaw_quotient_right claw_quotient_right klaw_quotient_right
  have blaw_quotient_right := Flaw_quotient_right.binds (ps := ["_law_pot_here", "_law_line_here", "_law_other"]) fun _ _ _ _ _ _ us hl => match us, hl with | [_, _, _], _ => rfl
  have glaw_quotient_right := PySem.W.mg_of X G alaw_quotient_right
  have Flaw_common := fun_mk (st := s_law_common) llaw_common claw_common klaw_common
  have blaw_common := Flaw_common.binds (ps := ["_law_one", "_law_other"]) fun _ _ _ _ _ _ us hl => match us, hl with | [_, _], _ => rfl
  have glaw_common := PySem.W.mg_of X G alaw_common
  have Fline_led := fun_mk (st := s_line_led) lline_led cline_led kline_led
  have bline_led := Fline_led.binds (ps := ["line"]) fun _ _ _ _ _ _ us hl => match us, hl with | [_], _ => rfl
  have gline_led := PySem.W.mg_of X G aline_led
  have Fline_common := fun_mk (st := s_line_common) lline_common cline_common kline_common
  have bline_common := Fline_common.binds (ps := ["one", "other"]) fun _ _ _ _ _ _ us hl => match us, hl with | [_, _], _ => rfl
  have gline_common := PySem.W.mg_of X G aline_common
  have Fcommon := fun_mk (st := s_common) lcommon ccommon kcommon
  have bcommon := Fcommon.binds (ps := ["line", "other"]) fun _ _ _ _ _ _ us hl => match us, hl with | [_, _], _ => rfl
  have gcommon := PySem.W.mg_of X G acommon
  have kbcommon : KBp K _ ["line", "other"] 0 ["other", "line"] [1, 0] := kbp_of Fcommon fun _ _ _ _ _ _ us ws h1 h2 => match us, h1, ws, h2 with | [], _, [_, _], _ => rfl
  have Fwant_number := fun_mk (st := s_want_number) lwant_number cwant_number kwant_number
  have bwant_number := Fwant_number.binds (ps := ["value"]) fun _ _ _ _ _ _ us hl => match us, hl with | [_], _ => rfl
  have gwant_number := PySem.W.mg_of X G awant_number
  have Fline_by := fun_mk (st := s_line_by) lline_by cline_by kline_by
  have bline_by := Fline_by.binds (ps := ["line", "ratio"]) fun _ _ _ _ _ _ us hl => match us, hl with | [_, _], _ => rfl
  have gline_by := PySem.W.mg_of X G aline_by
  have Fscaled := fun_mk (st := s_scaled) lscaled cscaled kscaled
  have bscaled := Fscaled.binds (ps := ["line", "number"]) fun _ _ _ _ _ _ us hl => match us, hl with | [_, _], _ => rfl
  have gscaled := PySem.W.mg_of X G ascaled
  have Flaw_common_right := fun_mk (st := s_law_common_right) llaw_common_right claw_common_right klaw_common_right
  have blaw_common_right := Flaw_common_right.binds (ps := ["_law_pot_here", "_law_one", "_law_other"]) fun _ _ _ _ _ _ us hl => match us, hl with | [_, _, _], _ => rfl
  have glaw_common_right := PySem.W.mg_of X G alaw_common_right
  have Flaw_shared_right := fun_mk (st := s_law_shared_right) llaw_shared_right claw_shared_right klaw_shared_right
  have blaw_shared_right := Flaw_shared_right.binds (ps := ["_law_pot_here", "_law_one", "_law_other", "_law_shared"]) fun _ _ _ _ _ _ us hl => match us, hl with | [_, _, _, _], _ => rfl
  have glaw_shared_right := PySem.W.mg_of X G alaw_shared_right
  have Flaw_right := fun_mk (st := s_law_right) llaw_right claw_right klaw_right
  have blaw_right := Flaw_right.binds (ps := ["_law_pot_here"]) fun _ _ _ _ _ _ us hl => match us, hl with | [_], _ => rfl
  have glaw_right := PySem.W.mg_of X G alaw_right
  have Flaw_pot := fun_mk (st := s_law_pot) llaw_pot claw_pot klaw_pot
  have blaw_pot := Flaw_pot.binds (ps := ["_law_script", "_law_k"]) fun _ _ _ _ _ _ us hl => match us, hl with | [_, _], _ => rfl
  have glaw_pot := PySem.W.mg_of X G alaw_pot
  have Flaw := fun_mk (st := s_law) llaw claw klaw
  have blaw := Flaw.binds (ps := ["_law_script"]) fun _ _ _ _ _ _ us hl => match us, hl with | [_], _ => rfl
  have glaw := PySem.W.mg_of X G alaw
  refine ⟨PySem.W.fnOf "law" "law" (defArgs s_law) (defBody s_law) (defScope s_law) .none kVlaw dclaw pmlaw anlaw cdlaw ctlaw, fun s v => .of_eq rfl, fun base hb hns => ?_⟩
  have B : Bi mg := ⟨(PySem.W.mg_none_of X G zisinstance), (PySem.W.mg_none_of X G zint), (PySem.W.mg_none_of X G zbool), (PySem.W.mg_none_of X G zabs), (PySem.W.mg_none_of X G zstr), (PySem.W.mg_none_of X G zlist), (PySem.W.mg_none_of X G ztuple)⟩
  have cl : Cls K C := ⟨pg, hd, po, sa⟩
  have R : Rc K mg C := ⟨cl, nT, nB, PySem.W.mg_of X G aC, ca, cn, ct, cm, oi, oo, io, ii, ib⟩
  have Of_digits_of := ok_digits_of (P := l.prog) (w := w) (mg := mg) (base := base) (FunG.of Fdigits_of) B (PySem.W.mg_of X G aPART)
  have Cdigits_of := cal_of Of_digits_of gdigits_of kdigits_of bdigits_of
  have ORrepr := fnOk_of (ok_Ratio_repr (P := l.prog) (w := w) (mg := mg) (base := base) (FunG.of FRrepr) R Cdigits_of)
  have osRrepr : OwnS l.prog w K mg base 2 C "__repr__" (S_txt C qrepr) := ⟨_, _, _, aRrepr, iRrepr, ORrepr, bRrepr⟩
  have OReq := fnOk_of (ok_Ratio_eq (P := l.prog) (w := w) (mg := mg) (base := base) (FunG.of FReq) B R)
  have osReq : OwnS l.prog w K mg base 1 C "__eq__" (S_eq K C) := ⟨_, _, _, aReq, iReq, OReq, bReq⟩
  have KN4 : Kn4 l.prog w K mg base C := ⟨osRrepr, osReq, ne, R, nfo⟩
  have Of_law_draw := ok_law_draw (gd := false) (P := l.prog) (w := w) (mg := mg) (base := base) (FunG.of Flaw_draw) B (PySem.W.mg_none_of X G zdivmod)
  have Claw_draw := cal_of Of_law_draw glaw_draw klaw_draw blaw_draw
  have Of_law_pick := ok_law_pick (gd := false) (P := l.prog) (w := w) (mg := mg) (base := base) (FunG.of Flaw_pick) Claw_draw (PySem.W.mg_none_of X G zlen)
  have Claw_pick := cal_of Of_law_pick glaw_pick klaw_pick blaw_pick
  have Ot_law_low := ok_law_low (gd := true) (P := l.prog) (w := w) (mg := mg) (base := base) (FunG.of Flaw_low) B
  have Tlaw_low := cal_of Ot_law_low glaw_low klaw_low blaw_low
  have Ot_law_number := ok_law_number (P := l.prog) (w := w) (mg := mg) (base := base) (FunG.of Flaw_number) Claw_draw Claw_pick Tlaw_low
  have Tlaw_number := cal_of Ot_law_number glaw_number klaw_number blaw_number
  have Ot_law_trim := ok_law_trim (gd := true) (P := l.prog) (w := w) (mg := mg) (base := base) (FunG.of Flaw_trim) (PySem.W.mg_none_of X G zlen)
  have Tlaw_trim := cal_of Ot_law_trim glaw_trim klaw_trim blaw_trim
  have Ot_law_line := ok_law_line (P := l.prog) (w := w) (mg := mg) (base := base) (FunG.of Flaw_line) Claw_draw Tlaw_number Tlaw_trim (PySem.W.mg_none_of X G zrange)
  have Tlaw_line := cal_of Ot_law_line glaw_line klaw_line blaw_line
  have Of_is_integer := ok_is_integer (P := l.prog) (w := w) (mg := mg) (base := base) (FunG.of Fis_integer) B R
  have Cis_integer := cal_of Of_is_integer gis_integer kis_integer bis_integer
  have Of_common_part := ok_common_part (P := l.prog) (w := w) (mg := mg) (base := base) (FunG.of Fcommon_part) (PySem.W.mg_of X G agcd)
  have Ccommon_part := cal_of Of_common_part gcommon_part kcommon_part bcommon_part
  have OI := fnOk_of (ok_Ratio_init (P := l.prog) (w := w) (mg := mg) (base := base) (FunG.ofD FRinit) R Cis_integer Ccommon_part)
  have mkk : Mk K C fRinit := ⟨mk, aRinit, iRinit, kc⟩
  have mk1 : Mak l.prog w K mg base 2 "Ratio" C (spIO K (T_init C)) [.int 1] := ⟨_, _, _, _, mkk, OI, PySem.W.mg_of X G aC, ib1, iv1⟩
  have mk2 : Mak l.prog w K mg base 2 "Ratio" C (spIO K (T_init C)) [] := ⟨_, _, _, _, mkk, OI, PySem.W.mg_of X G aC, ib2, iv2⟩
  have Of_law_ratio := ok_law_ratio (gd := false) (P := l.prog) (w := w) (mg := mg) (base := base) (FunG.of Flaw_ratio) mk2
  have Claw_ratio := cal_of Of_law_ratio glaw_ratio klaw_ratio blaw_ratio
  have Ot_law_passed := ok_law_passed (gd := true) (P := l.prog) (w := w) (mg := mg) (base := base) (FunG.of Flaw_passed) Claw_draw Claw_ratio
  have Tlaw_passed := cal_of Ot_law_passed glaw_passed klaw_passed blaw_passed
  have Ot_law_given := ok_law_given (P := l.prog) (w := w) (mg := mg) (base := base) (FunG.of Flaw_given) B Claw_draw Claw_pick Tlaw_passed (PySem.W.mg_none_of X G zlen)
  have Tlaw_given := cal_of Ot_law_given glaw_given klaw_given blaw_given
  have Ot_law_over := ok_law_over (P := l.prog) (w := w) (mg := mg) (base := base) (FunG.of Flaw_over) Tlaw_low
  have Tlaw_over := cal_of Ot_law_over glaw_over klaw_over blaw_over
  have Ot_law_sum := ok_law_sum (P := l.prog) (w := w) (mg := mg) (base := base) (FunG.of Flaw_sum) Tlaw_low
  have Tlaw_sum := cal_of Ot_law_sum glaw_sum klaw_sum blaw_sum
  have Ot_law_line_sum := ok_law_line_sum (P := l.prog) (w := w) (mg := mg) (base := base) (FunG.of Flaw_line_sum) Tlaw_sum Tlaw_trim (PySem.W.mg_none_of X G zlen) (PySem.W.mg_none_of X G zmax) (PySem.W.mg_none_of X G zrange)
  have Tlaw_line_sum := cal_of Ot_law_line_sum glaw_line_sum klaw_line_sum blaw_line_sum
  have Ot_law_by := ok_law_by (P := l.prog) (w := w) (mg := mg) (base := base) (FunG.of Flaw_by) Tlaw_low
  have Tlaw_by := cal_of Ot_law_by glaw_by klaw_by blaw_by
  have Ot_law_line_scaled := ok_law_line_scaled (P := l.prog) (w := w) (mg := mg) (base := base) (FunG.of Flaw_line_scaled) Tlaw_by Tlaw_trim
  have Tlaw_line_scaled := cal_of Ot_law_line_scaled glaw_line_scaled klaw_line_scaled blaw_line_scaled
  have Ot_law_divided := ok_law_divided (P := l.prog) (w := w) (mg := mg) (base := base) (FunG.of Flaw_divided) Tlaw_over Tlaw_line_sum Tlaw_line_scaled Tlaw_trim (PySem.W.mg_none_of X G zlen) (PySem.W.mg_none_of X G zlist) (PySem.W.mg_none_of X G zmax)
  have Tlaw_divided := cal_of Ot_law_divided glaw_divided klaw_divided blaw_divided
  have Ot_law_ratio := ok_law_ratio (gd := true) (P := l.prog) (w := w) (mg := mg) (base := base) (FunG.of Flaw_ratio) mk2
  have Tlaw_ratio := cal_of Ot_law_ratio glaw_ratio klaw_ratio blaw_ratio
  have Ot_law_is_line := ok_law_is_line (P := l.prog) (w := w) (mg := mg) (base := base) (FunG.of Flaw_is_line) B qkitOneKtypelisttypelistsometrue osRrepr Tlaw_ratio (PySem.W.mg_none_of X G zrepr)
  have Tlaw_is_line := cal_of Ot_law_is_line glaw_is_line klaw_is_line blaw_is_line
  have Of_is_list := ok_is_list (P := l.prog) (w := w) (mg := mg) (base := base) (FunG.of Fis_list) B qkitAnyKtypelisttypelisttypetuplesometrue qkitAnyKtypetupletypelisttypetuplesometrue
  have Cis_list := cal_of Of_is_list gis_list kis_list bis_list
  have Of_is_number := ok_is_number (P := l.prog) (w := w) (mg := mg) (base := base) (FunG.of Fis_number) B R Cis_integer
  have Cis_number := cal_of Of_is_number gis_number kis_number bis_number
  have Of_is_line := ok_is_line (P := l.prog) (w := w) (mg := mg) (base := base) (FunG.of Fis_line) Cis_list Cis_number (PySem.W.mg_of X G aMOST_LINE) (PySem.W.mg_none_of X G zlen) (PySem.W.mg_none_of X G zall)
  have Cis_line := cal_of Of_is_line gis_line kis_line bis_line
  have Of_ratio_of := ok_ratio_of (P := l.prog) (w := w) (mg := mg) (base := base) (FunG.of Fratio_of) B R mk1
  have Cratio_of := cal_of Of_ratio_of gratio_of kratio_of bratio_of
  have Of_trimmed := ok_trimmed (P := l.prog) (w := w) (mg := mg) (base := base) (FunG.of Ftrimmed) B R (PySem.W.mg_none_of X G zlen)
  have Ctrimmed := cal_of Of_trimmed gtrimmed ktrimmed btrimmed
  have Of_want_line := ok_want_line (P := l.prog) (w := w) (mg := mg) (base := base) (FunG.of Fwant_line) Cis_line Cratio_of Ctrimmed
  have Cwant_line := cal_of Of_want_line gwant_line kwant_line bwant_line
  have Of_two_lines := ok_two_lines (P := l.prog) (w := w) (mg := mg) (base := base) (FunG.of Ftwo_lines) Cwant_line
  have Ctwo_lines := cal_of Of_two_lines gtwo_lines ktwo_lines btwo_lines
  have Of_told_pair := ok_told_pair (P := l.prog) (w := w) (mg := mg) (base := base) (FunG.of Ftold_pair) B R Cis_integer
  have Ctold_pair := cal_of Of_told_pair gtold_pair ktold_pair btold_pair
  have ORover := fnOk_of (ok_Ratio_over (P := l.prog) (w := w) (mg := mg) (base := base) (FunG.of FRover) R Ctold_pair mk2)
  have meRover : Met l.prog w K mg base 4 C "over" (spD K (S_op C (fun x y => y ≠ 0) fun x y => x / y)) [] := ⟨_, _, _, _, cl, ⟨aRover, iRover, kRover⟩, ORover, bRover, .nil⟩
  have ORsub := fnOk_of (ok_Ratio_sub (P := l.prog) (w := w) (mg := mg) (base := base) (FunG.of FRsub) R Ctold_pair mk2)
  have ocRsub : OpC K C "sub" fRsub := ⟨sf, aRsub, iRsub⟩
  have owRsub : OwnOp l.prog w K mg base 4 C "sub" (S_op C (fun _ _ => True) fun x y => x - y) := ⟨_, _, _, ocRsub, ORsub, bRsub⟩
  have ORmul := fnOk_of (ok_Ratio_mul (P := l.prog) (w := w) (mg := mg) (base := base) (FunG.of FRmul) R Ctold_pair mk2)
  have ocRmul : OpC K C "mul" fRmul := ⟨sf, aRmul, iRmul⟩
  have owRmul : OwnOp l.prog w K mg base 4 C "mul" (S_op C (fun _ _ => True) fun x y => x * y) := ⟨_, _, _, ocRmul, ORmul, bRmul⟩
  have Of_line_parts := ok_line_parts (P := l.prog) (w := w) (mg := mg) (base := base) (FunG.of Fline_parts) meRover owRsub owRmul Ctrimmed mk1 (PySem.W.mg_none_of X G zrange) (PySem.W.mg_none_of X G zlen) (PySem.W.mg_none_of X G zlist) (PySem.W.mg_none_of X G zmax)
  have Cline_parts := cal_of Of_line_parts gline_parts kline_parts bline_parts
  have Of_divided := ok_divided (P := l.prog) (w := w) (mg := mg) (base := base) (FunG.of Fdivided) Ctwo_lines Cline_parts (PySem.W.mg_none_of X G zlen)
  have Cdivided := cal_of Of_divided gdivided kdivided bdivided
  have CKdivided : CalK l.prog w K mg base 7 "divided" (spD K (S_divided C)) ["other", "line"] [1, 0] := ⟨_, _, _, fnOk_of Of_divided, gdivided, kdivided, kbdivided⟩
  have ORadd := fnOk_of (ok_Ratio_add (P := l.prog) (w := w) (mg := mg) (base := base) (FunG.of FRadd) R Ctold_pair mk2)
  have ocRadd : OpC K C "add" fRadd := ⟨sf, aRadd, iRadd⟩
  have owRadd : OwnOp l.prog w K mg base 4 C "add" (S_op C (fun _ _ => True) fun x y => x + y) := ⟨_, _, _, ocRadd, ORadd, bRadd⟩
  have Of_line_sum := ok_line_sum (P := l.prog) (w := w) (mg := mg) (base := base) (FunG.of Fline_sum) owRadd Ctrimmed (PySem.W.mg_none_of X G zlen) (PySem.W.mg_none_of X G zrange)
  have Cline_sum := cal_of Of_line_sum gline_sum kline_sum bline_sum
  have Of_plus := ok_plus (P := l.prog) (w := w) (mg := mg) (base := base) (FunG.of Fplus) Ctwo_lines Cline_sum
  have Cplus := cal_of Of_plus gplus kplus bplus
  have Of_wholes := ok_wholes (P := l.prog) (w := w) (mg := mg) (base := base) (FunG.of Fwholes) R (PySem.W.mg_of X G alcm)
  have Cwholes := cal_of Of_wholes gwholes kwholes bwholes
  have Of_line_over := ok_line_over (P := l.prog) (w := w) (mg := mg) (base := base) (FunG.of Fline_over) mk2 Ctrimmed
  have Cline_over := cal_of Of_line_over gline_over kline_over bline_over
  have Of_line_product := ok_line_product (P := l.prog) (w := w) (mg := mg) (base := base) (FunG.of Fline_product) Cwholes Cline_over (PySem.W.mg_none_of X G zlen) (PySem.W.mg_none_of X G zrange) (PySem.W.mg_none_of X G zenumerate)
  have Cline_product := cal_of Of_line_product gline_product kline_product bline_product
  have Of_want_at_most := ok_want_at_most (P := l.prog) (w := w) (mg := mg) (base := base) (FunG.of Fwant_at_most)
  have Cwant_at_most := cal_of Of_want_at_most gwant_at_most kwant_at_most bwant_at_most
  have Of_degree_from_nought := ok_degree_from_nought (P := l.prog) (w := w) (mg := mg) (base := base) (C := C) (FunG.of Fdegree_from_nought) (PySem.W.mg_none_of X G zlen) (PySem.W.mg_none_of X G zmax)
  have Cdegree_from_nought := cal_of Of_degree_from_nought gdegree_from_nought kdegree_from_nought bdegree_from_nought
  have Of_times := ok_times (P := l.prog) (w := w) (mg := mg) (base := base) (FunG.of Ftimes) Ctwo_lines Cline_product Cwant_at_most Cdegree_from_nought (PySem.W.mg_of X G aMOST_LINE)
  have Ctimes := cal_of Of_times gtimes ktimes btimes
  have Of_told := ok_told (P := l.prog) (w := w) (mg := mg) (base := base) (FunG.of Ftold) Cwant_line
  have Ctold := cal_of Of_told gtold ktold btold
  have Of_degree := ok_degree (P := l.prog) (w := w) (mg := mg) (base := base) (FunG.of Fdegree) Cwant_line (PySem.W.mg_none_of X G zlen)
  have Cdegree := cal_of Of_degree gdegree kdegree bdegree
  have Ot_law_quotient_right := ok_law_quotient_right (P := l.prog) (w := w) (mg := mg) (base := base) (FunG.of Flaw_quotient_right) KN4 Tlaw_given Tlaw_divided Tlaw_is_line Cdivided CKdivided Cplus Ctimes Ctold Cdegree B qkitOneKtypetupletypetuplesometrue (PySem.W.mg_none_of X G zrepr) (PySem.W.mg_none_of X G zlen)
  have Tlaw_quotient_right := cal_of Ot_law_quotient_right glaw_quotient_right klaw_quotient_right blaw_quotient_right
  have Ot_law_common := ok_law_common (P := l.prog) (w := w) (mg := mg) (base := base) (FunG.of Flaw_common) Tlaw_divided Tlaw_over Tlaw_line_scaled
  have Tlaw_common := cal_of Ot_law_common glaw_common klaw_common blaw_common
  have Of_line_led := ok_line_led (P := l.prog) (w := w) (mg := mg) (base := base) (FunG.of Fline_led) meRover
  have Cline_led := cal_of Of_line_led gline_led kline_led bline_led
  have Of_line_common := ok_line_common (P := l.prog) (w := w) (mg := mg) (base := base) (FunG.of Fline_common) Cline_parts Cline_led (PySem.W.mg_none_of X G zlen)
  have Cline_common := cal_of Of_line_common gline_common kline_common bline_common
  have Of_common := ok_common (P := l.prog) (w := w) (mg := mg) (base := base) (FunG.of Fcommon) Ctwo_lines Cline_common
  have Ccommon := cal_of Of_common gcommon kcommon bcommon
  have CKcommon : CalK l.prog w K mg base 7 "common" (spD K (S_common C)) ["other", "line"] [1, 0] := ⟨_, _, _, fnOk_of Of_common, gcommon, kcommon, kbcommon⟩
  have Of_want_number := ok_want_number (P := l.prog) (w := w) (mg := mg) (base := base) (FunG.of Fwant_number) Cis_number Cratio_of
  have Cwant_number := cal_of Of_want_number gwant_number kwant_number bwant_number
  have Of_line_by := ok_line_by (P := l.prog) (w := w) (mg := mg) (base := base) (FunG.of Fline_by) owRmul Ctrimmed
  have Cline_by := cal_of Of_line_by gline_by kline_by bline_by
  have Of_scaled := ok_scaled (P := l.prog) (w := w) (mg := mg) (base := base) (FunG.of Fscaled) Cwant_line Cwant_number Cline_by
  have Cscaled := cal_of Of_scaled gscaled kscaled bscaled
  have Ot_law_common_right := ok_law_common_right (P := l.prog) (w := w) (mg := mg) (base := base) (FunG.of Flaw_common_right) KN4 Claw_draw Tlaw_given Tlaw_common Tlaw_passed Tlaw_is_line Cdivided Ccommon CKcommon Cscaled mk1
  have Tlaw_common_right := cal_of Ot_law_common_right glaw_common_right klaw_common_right blaw_common_right
  have Ot_law_shared_right := ok_law_shared_right (P := l.prog) (w := w) (mg := mg) (base := base) (FunG.of Flaw_shared_right) KN4 Tlaw_given Cdivided Ccommon Cscaled Ctimes Cplus Ctold Cdegree meRover mk1
  have Tlaw_shared_right := cal_of Ot_law_shared_right glaw_shared_right klaw_shared_right blaw_shared_right
  have Ot_law_right := ok_law_right (P := l.prog) (w := w) (mg := mg) (base := base) (FunG.of Flaw_right) KN4 Claw_draw Claw_pick Tlaw_line Tlaw_quotient_right Tlaw_common_right Tlaw_shared_right Ccommon mk1
  have Tlaw_right := cal_of Ot_law_right glaw_right klaw_right blaw_right
  have Ot_law_pot := ok_law_pot (gd := true) (P := l.prog) (w := w) (mg := mg) (base := base) (FunG.of Flaw_pot) B (PySem.W.mg_none_of X G zlen) (PySem.W.mg_none_of X G zmax)
  have Tlaw_pot := cal_of Ot_law_pot glaw_pot klaw_pot blaw_pot
  exact ok_law (FunG.of Flaw) Tlaw_right Tlaw_pot
end Dn
open PySem PySem.W PyProof.Rows in
set_option maxHeartbeats 0 in
theorem PySem.Challenge.cw_straightened_k13_whole_lines_divided_holds : PySem.Challenge.rw_straightened_k13_whole_lines_divided.Holds := by
  refine head13 ?_
  k_fill
  refine Dn.walk_D (l := PySem.Challenge.rw_straightened_k13_whole_lines_divided) (n := 63) (k := 10) (x := "_law_script") (sp := Dn.spLaw 63) rfl rfl (fun w h Y => PySem.W.kIn_of Y) ?F (fun K H a ns h1 h2 hS => Dn.spLaw_of h1 h2 hS)
  case F =>
    intro w mg fa h KX G hmg
    refine' Dn.k13_all (l := PySem.Challenge.rw_straightened_k13_whole_lines_divided) KX G hmg ?aC ?pg ?hd ?po ?sa ?mk ?kc ?nT ?nB ?ca ?cn ?ct ?cm ?oi ?oo ?io ?ii ?ib ?ne ?nfo ?zisinstance ?zint ?zbool ?zabs ?zstr ?zlist ?ztuple ?aPART ?adigits_of ?ldigits_of ?cdigits_of ?kdigits_of ?aRrepr ?iRrepr ?lRrepr ?cRrepr ?kRrepr ?aReq ?iReq ?lReq ?cReq ?kReq ?zdivmod ?alaw_draw ?llaw_draw ?claw_draw ?klaw_draw ?zlen ?alaw_pick ?llaw_pick ?claw_pick ?klaw_pick ?alaw_low ?llaw_low ?claw_low ?klaw_low ?alaw_number ?llaw_number ?claw_number ?klaw_number ?alaw_trim ?llaw_trim ?claw_trim ?klaw_trim ?zrange ?alaw_line ?llaw_line ?claw_line ?klaw_line ?ais_integer ?lis_integer ?cis_integer ?kis_integer ?agcd ?acommon_part ?lcommon_part ?ccommon_part ?kcommon_part ?aRinit ?iRinit ?lRinit ?lT ?cRinit ?kRinit ?alaw_ratio ?llaw_ratio ?claw_ratio ?klaw_ratio ?alaw_passed ?llaw_passed ?claw_passed ?klaw_passed ?alaw_given ?llaw_given ?claw_given ?klaw_given ?alaw_over ?llaw_over ?claw_over ?klaw_over ?alaw_sum ?llaw_sum ?claw_sum ?klaw_sum ?zmax ?alaw_line_sum ?llaw_line_sum ?claw_line_sum ?klaw_line_sum ?alaw_by ?llaw_by ?claw_by ?klaw_by ?alaw_line_scaled ?llaw_line_scaled ?claw_line_scaled ?klaw_line_scaled ?alaw_divided ?llaw_divided ?claw_divided ?klaw_divided ?qkitOneKtypelisttypelistsometrue ?zrepr ?alaw_is_line ?llaw_is_line ?claw_is_line ?klaw_is_line ?qkitAnyKtypelisttypelisttypetuplesometrue ?qkitAnyKtypetupletypelisttypetuplesometrue ?ais_list ?lis_list ?cis_list ?kis_list ?ais_number ?lis_number ?cis_number ?kis_number ?aMOST_LINE ?zall ?ais_line ?lis_line ?cis_line ?kis_line ?aratio_of ?lratio_of ?cratio_of ?kratio_of ?atrimmed ?ltrimmed ?ctrimmed ?ktrimmed ?awant_line ?lwant_line ?cwant_line ?kwant_line ?atwo_lines ?ltwo_lines ?ctwo_lines ?ktwo_lines ?atold_pair ?ltold_pair ?ctold_pair ?ktold_pair ?aRover ?iRover ?lRover ?cRover ?kRover ?aRsub ?iRsub ?lRsub ?cRsub ?kRsub ?sf ?aRmul ?iRmul ?lRmul ?cRmul ?kRmul ?aline_parts ?lline_parts ?cline_parts ?kline_parts ?adivided ?ldivided ?cdivided ?kdivided ?aRadd ?iRadd ?lRadd ?cRadd ?kRadd ?aline_sum ?lline_sum ?cline_sum ?kline_sum ?aplus ?lplus ?cplus ?kplus ?alcm ?awholes ?lwholes ?cwholes ?kwholes ?aline_over ?lline_over ?cline_over ?kline_over ?zenumerate ?aline_product ?lline_product ?cline_product ?kline_product ?awant_at_most ?lwant_at_most ?cwant_at_most ?kwant_at_most ?adegree_from_nought ?ldegree_from_nought ?cdegree_from_nought ?kdegree_from_nought ?atimes ?ltimes ?ctimes ?ktimes ?atold ?ltold ?ctold ?ktold ?adegree ?ldegree ?cdegree ?kdegree ?qkitOneKtypetupletypetuplesometrue ?alaw_quotient_right ?llaw_quotient_right ?claw_quotient_right ?klaw_quotient_right ?alaw_common ?llaw_common ?claw_common ?klaw_common ?aline_led ?lline_led ?cline_led ?kline_led ?aline_common ?lline_common ?cline_common ?kline_common ?acommon ?lcommon ?ccommon ?kcommon ?awant_number ?lwant_number ?cwant_number ?kwant_number ?aline_by ?lline_by ?cline_by ?kline_by ?ascaled ?lscaled ?cscaled ?kscaled ?alaw_common_right ?llaw_common_right ?claw_common_right ?klaw_common_right ?alaw_shared_right ?llaw_shared_right ?claw_shared_right ?klaw_shared_right ?alaw_right ?llaw_right ?claw_right ?klaw_right ?alaw_pot ?llaw_pot ?claw_pot ?klaw_pot ?alaw ?llaw ?claw ?klaw
    (case aC => k_is)
    (case pg => k_is)
    (case hd => k_is)
    (case po => k_is)
    (case sa => k_is)
    (case mk => k_is)
    (case kc => k_is)
    (case nT => k_is)
    (case nB => k_is)
    (case ca => k_is)
    (case cn => k_is)
    (case ct => k_is)
    (case cm => k_is)
    (case oi => kit_is)
    (case oo => kit_is)
    (case io => kit_is)
    (case ii => kit_is)
    (case ib => kit_is)
    (case ne => k_is)
    (case nfo => k_is)
    (case zisinstance => k_is)
    (case zint => k_is)
    (case zbool => k_is)
    (case zabs => k_is)
    (case zstr => k_is)
    (case zlist => k_is)
    (case ztuple => k_is)
    (case aPART => k_is)
    (case adigits_of => k_is)
    (case ldigits_of => k_is)
    (case cdigits_of => k_is)
    (case kdigits_of => k_is)
    (case aRrepr => k_is)
    (case iRrepr => k_is)
    (case lRrepr => k_is)
    (case cRrepr => k_is)
    (case kRrepr => k_is)
    (case aReq => k_is)
    (case iReq => k_is)
    (case lReq => k_is)
    (case cReq => k_is)
    (case kReq => k_is)
    (case zdivmod => k_is)
    (case alaw_draw => k_is)
    (case llaw_draw => k_is)
    (case claw_draw => k_is)
    (case klaw_draw => k_is)
    (case zlen => k_is)
    (case alaw_pick => k_is)
    (case llaw_pick => k_is)
    (case claw_pick => k_is)
    (case klaw_pick => k_is)
    (case alaw_low => k_is)
    (case llaw_low => k_is)
    (case claw_low => k_is)
    (case klaw_low => k_is)
    (case alaw_number => k_is)
    (case llaw_number => k_is)
    (case claw_number => k_is)
    (case klaw_number => k_is)
    (case alaw_trim => k_is)
    (case llaw_trim => k_is)
    (case claw_trim => k_is)
    (case klaw_trim => k_is)
    (case zrange => k_is)
    (case alaw_line => k_is)
    (case llaw_line => k_is)
    (case claw_line => k_is)
    (case klaw_line => k_is)
    (case ais_integer => k_is)
    (case lis_integer => k_is)
    (case cis_integer => k_is)
    (case kis_integer => k_is)
    (case agcd => k_is)
    (case acommon_part => k_is)
    (case lcommon_part => k_is)
    (case ccommon_part => k_is)
    (case kcommon_part => k_is)
    (case aRinit => k_is)
    (case iRinit => k_is)
    (case lRinit => k_is)
    (case lT => k_is)
    (case cRinit => k_is)
    (case kRinit => k_is)
    (case alaw_ratio => k_is)
    (case llaw_ratio => k_is)
    (case claw_ratio => k_is)
    (case klaw_ratio => k_is)
    (case alaw_passed => k_is)
    (case llaw_passed => k_is)
    (case claw_passed => k_is)
    (case klaw_passed => k_is)
    (case alaw_given => k_is)
    (case llaw_given => k_is)
    (case claw_given => k_is)
    (case klaw_given => k_is)
    (case alaw_over => k_is)
    (case llaw_over => k_is)
    (case claw_over => k_is)
    (case klaw_over => k_is)
    (case alaw_sum => k_is)
    (case llaw_sum => k_is)
    (case claw_sum => k_is)
    (case klaw_sum => k_is)
    (case zmax => k_is)
    (case alaw_line_sum => k_is)
    (case llaw_line_sum => k_is)
    (case claw_line_sum => k_is)
    (case klaw_line_sum => k_is)
    (case alaw_by => k_is)
    (case llaw_by => k_is)
    (case claw_by => k_is)
    (case klaw_by => k_is)
    (case alaw_line_scaled => k_is)
    (case llaw_line_scaled => k_is)
    (case claw_line_scaled => k_is)
    (case klaw_line_scaled => k_is)
    (case alaw_divided => k_is)
    (case llaw_divided => k_is)
    (case claw_divided => k_is)
    (case klaw_divided => k_is)
    (case qkitOneKtypelisttypelistsometrue => kit_is)
    (case zrepr => k_is)
    (case alaw_is_line => k_is)
    (case llaw_is_line => k_is)
    (case claw_is_line => k_is)
    (case klaw_is_line => k_is)
    (case qkitAnyKtypelisttypelisttypetuplesometrue => kit_is)
    (case qkitAnyKtypetupletypelisttypetuplesometrue => kit_is)
    (case ais_list => k_is)
    (case lis_list => k_is)
    (case cis_list => k_is)
    (case kis_list => k_is)
    (case ais_number => k_is)
    (case lis_number => k_is)
    (case cis_number => k_is)
    (case kis_number => k_is)
    (case aMOST_LINE => k_is)
    (case zall => k_is)
    (case ais_line => k_is)
    (case lis_line => k_is)
    (case cis_line => k_is)
    (case kis_line => k_is)
    (case aratio_of => k_is)
    (case lratio_of => k_is)
    (case cratio_of => k_is)
    (case kratio_of => k_is)
    (case atrimmed => k_is)
    (case ltrimmed => k_is)
    (case ctrimmed => k_is)
    (case ktrimmed => k_is)
    (case awant_line => k_is)
    (case lwant_line => k_is)
    (case cwant_line => k_is)
    (case kwant_line => k_is)
    (case atwo_lines => k_is)
    (case ltwo_lines => k_is)
    (case ctwo_lines => k_is)
    (case ktwo_lines => k_is)
    (case atold_pair => k_is)
    (case ltold_pair => k_is)
    (case ctold_pair => k_is)
    (case ktold_pair => k_is)
    (case aRover => k_is)
    (case iRover => k_is)
    (case lRover => k_is)
    (case cRover => k_is)
    (case kRover => k_is)
    (case aRsub => k_is)
    (case iRsub => k_is)
    (case lRsub => k_is)
    (case cRsub => k_is)
    (case kRsub => k_is)
    (case sf => k_is)
    (case aRmul => k_is)
    (case iRmul => k_is)
    (case lRmul => k_is)
    (case cRmul => k_is)
    (case kRmul => k_is)
    (case aline_parts => k_is)
    (case lline_parts => k_is)
    (case cline_parts => k_is)
    (case kline_parts => k_is)
    (case adivided => k_is)
    (case ldivided => k_is)
    (case cdivided => k_is)
    (case kdivided => k_is)
    (case aRadd => k_is)
    (case iRadd => k_is)
    (case lRadd => k_is)
    (case cRadd => k_is)
    (case kRadd => k_is)
    (case aline_sum => k_is)
    (case lline_sum => k_is)
    (case cline_sum => k_is)
    (case kline_sum => k_is)
    (case aplus => k_is)
    (case lplus => k_is)
    (case cplus => k_is)
    (case kplus => k_is)
    (case alcm => k_is)
    (case awholes => k_is)
    (case lwholes => k_is)
    (case cwholes => k_is)
    (case kwholes => k_is)
    (case aline_over => k_is)
    (case lline_over => k_is)
    (case cline_over => k_is)
    (case kline_over => k_is)
    (case zenumerate => k_is)
    (case aline_product => k_is)
    (case lline_product => k_is)
    (case cline_product => k_is)
    (case kline_product => k_is)
    (case awant_at_most => k_is)
    (case lwant_at_most => k_is)
    (case cwant_at_most => k_is)
    (case kwant_at_most => k_is)
    (case adegree_from_nought => k_is)
    (case ldegree_from_nought => k_is)
    (case cdegree_from_nought => k_is)
    (case kdegree_from_nought => k_is)
    (case atimes => k_is)
    (case ltimes => k_is)
    (case ctimes => k_is)
    (case ktimes => k_is)
    (case atold => k_is)
    (case ltold => k_is)
    (case ctold => k_is)
    (case ktold => k_is)
    (case adegree => k_is)
    (case ldegree => k_is)
    (case cdegree => k_is)
    (case kdegree => k_is)
    (case qkitOneKtypetupletypetuplesometrue => kit_is)
    (case alaw_quotient_right => k_is)
    (case llaw_quotient_right => k_is)
    (case claw_quotient_right => k_is)
    (case klaw_quotient_right => k_is)
    (case alaw_common => k_is)
    (case llaw_common => k_is)
    (case claw_common => k_is)
    (case klaw_common => k_is)
    (case aline_led => k_is)
    (case lline_led => k_is)
    (case cline_led => k_is)
    (case kline_led => k_is)
    (case aline_common => k_is)
    (case lline_common => k_is)
    (case cline_common => k_is)
    (case kline_common => k_is)
    (case acommon => k_is)
    (case lcommon => k_is)
    (case ccommon => k_is)
    (case kcommon => k_is)
    (case awant_number => k_is)
    (case lwant_number => k_is)
    (case cwant_number => k_is)
    (case kwant_number => k_is)
    (case aline_by => k_is)
    (case lline_by => k_is)
    (case cline_by => k_is)
    (case kline_by => k_is)
    (case ascaled => k_is)
    (case lscaled => k_is)
    (case cscaled => k_is)
    (case kscaled => k_is)
    (case alaw_common_right => k_is)
    (case llaw_common_right => k_is)
    (case claw_common_right => k_is)
    (case klaw_common_right => k_is)
    (case alaw_shared_right => k_is)
    (case llaw_shared_right => k_is)
    (case claw_shared_right => k_is)
    (case klaw_shared_right => k_is)
    (case alaw_right => k_is)
    (case llaw_right => k_is)
    (case claw_right => k_is)
    (case klaw_right => k_is)
    (case alaw_pot => k_is)
    (case llaw_pot => k_is)
    (case claw_pot => k_is)
    (case klaw_pot => k_is)
    (case alaw => k_is)
    (case llaw => k_is)
    (case claw => k_is)
    (case klaw => k_is)
end
end
