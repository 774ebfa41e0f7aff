import PyProof.Rows.All
import Wide.All
import OpenK.AllK
import Wide.FinOn
import HandS.ForMost
import HandS.ForExc
import HandS.TupAny
import HandS.Wide
import HandS.IsInst
import HandS.Deep
import HandS.Flow
import HandS.RaiseMore
import HandS.Conv
import HandS.StrMore
import HandS.Comp
import HandS.Iter
import HandS.Zip
import HandS.Style
import HandS.Dict
import HandS.Sort
import PySem.Challenge.RW_roomstair_k02_plain_checks
set_option Elab.async false
set_option linter.all false
set_option maxRecDepth 100000
set_option autoImplicit false
set_option maxHeartbeats 4000000
namespace DL
open PySem PySem.Spec PyProof.Rows L2
/-- plain data, without addresses -/
inductive D where
  | non
  | bl (b : Bool)
  | int (i : Int)
  | str (x : Str)
  | lst (xs : List D)
  | tup (xs : List D)
  | dic (ks : List Key) (vs : List D)
  | obj (c : Nat) (fs : List D)
  | exc (c : Nat) (fs : List D)
  | pen
  | scr (ns : List Int)
/-- what is fixed of a program: the written part, where its classes stand, their fields' names -/
structure Sg where
  K : PySem.W.Frag
  ct : Nat → Addr
  fn : Nat → List Str
abbrev St := L2.St
abbrev AS := Addr → Prop
section
variable (S : Sg) (P : AS) (H : Hp)
mutual
def Rel : D → V → Prop
  | .non, v => v = .non
  | .bl b, v => v = .bl b
  | .int i, v => v = .int i
  | .str x, v => v = .str x
  | .lst xs, v => ∃ a vs, v = .ref a ∧ H a = some (.lst vs) ∧ Rels xs vs
  | .tup xs, v => ∃ a vs, v = .ref a ∧ H a = some (.tup vs) ∧ Rels xs vs
  | .dic ks ds, v => ∃ a vs, v = .ref a ∧ H a = some (.dK (ks.zip vs)) ∧ ks.length = vs.length ∧ Rels ds vs
  | .obj c ds, v => ∃ a dx vs, v = .ref a ∧ H a = some (.ins (S.ct c) dx ((S.fn c).zip vs)) ∧ (S.fn c).length = vs.length ∧ Rels ds vs
  | .exc _ _, _ => False
  | .pen, v => ∃ a, v = .ref a ∧ P a
  | .scr ns, v => ∃ a, v = .ref a ∧ SqL S.K H a (ns.map V.int)
def Rels : List D → List V → Prop
  | [], vs => vs = []
  | d :: ds, vs => ∃ v r, vs = v :: r ∧ Rel d v ∧ Rels ds r
end
end
section
variable {S : Sg} {P P' : AS} {H H' : Hp}
theorem sqL_mono (h : ∀ a o, H a = some o → H' a = some o) {K : PySem.W.Frag} {a : Addr} {xs : List V} (x : SqL K H a xs) : SqL K H' a xs := Same.seq (show Same H H' from h) x
theorem sqT_mono (h : ∀ a o, H a = some o → H' a = some o) {K : PySem.W.Frag} {a : Addr} {xs : List V} (x : SqT K H a xs) : SqT K H' a xs := by
  rcases x with (x | ⟨o, x⟩) | x
  · exact .inl (.inl (h _ _ x))
  · exact .inl (.inr ⟨o, h _ _ x⟩)
  · exact .inr x
mutual
theorem Rel.mono (h : ∀ a o, H a = some o → H' a = some o) (p : ∀ a, P a → P' a) : ∀ (d : D) (v : V), Rel S P H d v → Rel S P' H' d v
  | .non, _, r => r
  | .bl _, _, r => r
  | .int _, _, r => r
  | .str _, _, r => r
  | .lst xs, _, ⟨a, vs, e, q, r⟩ => ⟨a, vs, e, h _ _ q, Rels.mono h p xs vs r⟩
  | .tup xs, _, ⟨a, vs, e, q, r⟩ => ⟨a, vs, e, h _ _ q, Rels.mono h p xs vs r⟩
  | .dic _ ds, _, ⟨a, vs, e, q, l, r⟩ => ⟨a, vs, e, h _ _ q, l, Rels.mono h p ds vs r⟩
  | .obj _ ds, _, ⟨a, dx, vs, e, q, l, r⟩ => ⟨a, dx, vs, e, h _ _ q, l, Rels.mono h p ds vs r⟩
  | .exc _ _, _, r => r
  | .pen, _, ⟨a, e, q⟩ => ⟨a, e, p a q⟩
  | .scr _, _, ⟨a, e, q⟩ => ⟨a, e, sqL_mono h q⟩
theorem Rels.mono (h : ∀ a o, H a = some o → H' a = some o) (p : ∀ a, P a → P' a) : ∀ (ds : List D) (vs : List V), Rels S P H ds vs → Rels S P' H' ds vs
  | [], _, r => r
  | d :: ds, _, ⟨v, r, e, q, t⟩ => ⟨v, r, e, Rel.mono h p d v q, Rels.mono h p ds r t⟩
end
theorem Rels.length : ∀ {ds : List D} {vs : List V}, Rels S P H ds vs → vs.length = ds.length
  | [], _, r => by have r : _ = [] := r; subst r; rfl
  | d :: ds, _, ⟨v, r, e, q, t⟩ => by subst e; simp [Rels.length t]
theorem Rels.get : ∀ {ds : List D} {vs : List V} {i : Nat} {d : D}, Rels S P H ds vs → ds[i]? = some d → ∃ v, vs[i]? = some v ∧ Rel S P H d v
  | [], _, _, _, _, e => by simp at e
  | d :: ds, _, 0, _, ⟨v, r, e, q, t⟩, e2 => by subst e; simp at e2; subst e2; exact ⟨v, rfl, q⟩
  | d :: ds, _, i + 1, _, ⟨v, r, e, q, t⟩, e2 => by subst e; obtain ⟨u, h1, h2⟩ := Rels.get (i := i) t (by simpa using e2); exact ⟨u, by simpa using h1, h2⟩
theorem Rels.getV : ∀ {ds : List D} {vs : List V} {i : Nat} {v : V}, Rels S P H ds vs → vs[i]? = some v → ∃ d, ds[i]? = some d ∧ Rel S P H d v
  | [], _, i, _, r, e => by have r : _ = [] := r; subst r; simp at e
  | d :: ds, _, 0, _, ⟨v, r, e, q, t⟩, e2 => by subst e; simp at e2; subst e2; exact ⟨d, rfl, q⟩
  | d :: ds, _, i + 1, _, ⟨v, r, e, q, t⟩, e2 => by subst e; obtain ⟨u, h1, h2⟩ := Rels.getV (i := i) t (by simpa using e2); exact ⟨u, by simpa using h1, h2⟩
theorem Rels.append : ∀ {ds es : List D} {vs ws : List V}, Rels S P H ds vs → Rels S P H es ws → Rels S P H (ds ++ es) (vs ++ ws)
  | [], _, _, _, r, q => by have r : _ = [] := r; subst r; exact q
  | d :: ds, _, _, _, ⟨v, r, e, q, t⟩, q2 => by subst e; exact ⟨v, _, rfl, q, Rels.append t q2⟩
theorem Rels.take : ∀ {ds : List D} {vs : List V} (n : Nat), Rels S P H ds vs → Rels S P H (ds.take n) (vs.take n)
  | _, _, 0, _ => by simp [Rels]
  | [], _, n + 1, r => by have r : _ = [] := r; subst r; rfl
  | d :: ds, _, n + 1, ⟨v, r, e, q, t⟩ => by subst e; exact ⟨v, _, rfl, q, Rels.take n t⟩
theorem Rels.drop : ∀ {ds : List D} {vs : List V} (n : Nat), Rels S P H ds vs → Rels S P H (ds.drop n) (vs.drop n)
  | _, _, 0, r => by simpa using r
  | [], _, n + 1, r => by have r : _ = [] := r; subst r; rfl
  | d :: ds, _, n + 1, ⟨v, r, e, q, t⟩ => by subst e; exact Rels.drop n t
theorem Rels.set : ∀ {ds : List D} {vs : List V} (n : Nat) {d : D} {v : V}, Rels S P H ds vs → Rel S P H d v → Rels S P H (ds.set n d) (vs.set n v)
  | [], _, n, _, _, r, _ => by have r : _ = [] := r; subst r; rfl
  | d :: ds, _, 0, _, _, ⟨v, r, e, q, t⟩, x => by subst e; exact ⟨_, _, rfl, x, t⟩
  | d :: ds, _, n + 1, _, _, ⟨v, r, e, q, t⟩, x => by subst e; exact ⟨v, _, rfl, q, Rels.set n t x⟩
theorem Rels.eraseIdx : ∀ {ds : List D} {vs : List V} (n : Nat), Rels S P H ds vs → Rels S P H (ds.eraseIdx n) (vs.eraseIdx n)
  | [], _, n, r => by have r : _ = [] := r; subst r; rfl
  | d :: ds, _, 0, ⟨v, r, e, q, t⟩ => by subst e; exact t
  | d :: ds, _, n + 1, ⟨v, r, e, q, t⟩ => by subst e; exact ⟨v, _, rfl, q, Rels.eraseIdx n t⟩
theorem Rels.one {d : D} {v : V} (r : Rel S P H d v) : Rels S P H [d] [v] := ⟨v, [], rfl, r, rfl⟩
theorem Rels.rep {ds : List D} {vs : List V} (r : Rels S P H ds vs) : ∀ k : Nat, Rels S P H (List.replicate k ds).flatten (List.replicate k vs).flatten
  | 0 => rfl
  | k + 1 => by
    rw [List.replicate_succ, List.replicate_succ, List.flatten_cons, List.flatten_cons]
    exact r.append (Rels.rep r k)
theorem rels_ints : ∀ {ns : List Int} {vs : List V}, Rels S P H (ns.map D.int) vs → vs = ns.map V.int
  | [], _, r => r
  | n :: ns, _, ⟨v, r, e, q, t⟩ => by have q : v = _ := q; subst e q; rw [rels_ints (ns := ns) t]; rfl
theorem ints_rels : ∀ (ns : List Int), Rels S P H (ns.map D.int) (ns.map V.int)
  | [] => rfl
  | n :: ns => ⟨_, _, rfl, rfl, ints_rels ns⟩
theorem rels_strs : ∀ {ns : List Str} {vs : List V}, Rels S P H (ns.map D.str) vs → vs = ns.map V.str
  | [], _, r => r
  | n :: ns, _, ⟨v, r, e, q, t⟩ => by have q : v = _ := q; subst e q; rw [rels_strs (ns := ns) t]; rfl
theorem strs_rels : ∀ (ns : List Str), Rels S P H (ns.map D.str) (ns.map V.str)
  | [] => rfl
  | n :: ns => ⟨_, _, rfl, rfl, strs_rels ns⟩
theorem rels_bls : ∀ {ns : List Bool} {vs : List V}, Rels S P H (ns.map D.bl) vs → vs = ns.map V.bl
  | [], _, r => r
  | n :: ns, _, ⟨v, r, e, q, t⟩ => by have q : v = _ := q; subst e q; rw [rels_bls (ns := ns) t]; rfl
end
open Classical in
noncomputable def hide (H : Hp) (B : AS) : Hp := fun a => if B a then none else H a
theorem hide_some {H : Hp} {B : AS} {a : Addr} {o : HO} : hide H B a = some o ↔ ¬ B a ∧ H a = some o := by
  unfold hide
  split
  · rename_i h; simp [h]
  · rename_i h; simp [h]
theorem hide_in {H : Hp} {B : AS} {a : Addr} (h : B a) : hide H B a = none := by unfold hide; rw [if_pos h]
theorem hide_out {H : Hp} {B : AS} {a : Addr} (h : ¬ B a) : hide H B a = H a := by unfold hide; rw [if_neg h]
/-- the pen's greatest count -/
abbrev LIM : Nat := 1048576
/-- a pen stands at a: its cells (to be seen in Hs), how many were begun (at most n), what is left of a great one -/
def PenAt (H Hs : Hp) (a : Addr) (n : Nat) : Prop := ∃ (c : Addr) (cs : List Int) (k r : Int), H a = some (.lst [.ref c, .int k, .int r]) ∧ Hs c = some (.lst (cs.map V.int)) ∧ 0 ≤ k ∧ k ≤ n ∧ 0 ≤ r ∧ cs.length ≤ 63
theorem PenAt.mono {H Hs : Hp} {a : Addr} {n m : Nat} (h : PenAt H Hs a n) (l : n ≤ m) : PenAt H Hs a m := by
  obtain ⟨c, cs, k, r, h1, h2, h3, h4, h5, h6⟩ := h
  exact ⟨c, cs, k, r, h1, h2, h3, by omega, h5, h6⟩
theorem PenAt.keep {H H' Hs Hs' : Hp} {a : Addr} {n : Nat} (h : PenAt H Hs a n) (k : ∀ a o, H a = some o → H' a = some o) (ks : ∀ a o, Hs a = some o → Hs' a = some o) : PenAt H' Hs' a n := by
  obtain ⟨c, cs, i, r, h1, h2, h3⟩ := h
  exact ⟨c, cs, i, r, k _ _ h1, ks _ _ h2, h3⟩
inductive Slot where
  | un
  | sh (d : D)
  | ow (xs : List D)
  | sf (c : Nat) (fs : List D)
def Slot.owns : Slot → Bool
  | .un => false
  | .sh _ => false
  | .ow _ => true
  | .sf _ _ => true
/-- the def's names, and how many draws are left -/
structure Ev where
  bud : Nat
  sl : List Slot
/-- fixed through a def's run: what is not to be leaned on, the pens, what may be changed (self), the heap at the entry, the pens' greatest count at the end -/
structure Fr where
  S : Sg
  B0 : AS
  P0 : AS
  M0 : AS
  H0 : Hp
  cap : Nat
def Off (F : Fr) (P : AS) (ρ : Ev) (σ : St) : AS := fun a => F.B0 a ∨ P a ∨ ∃ (i : Nat) (s : Slot), ρ.sl[i]? = some s ∧ s.owns = true ∧ σ[i]? = some (some (V.ref a))
def SlotOk (F : Fr) (P : AS) (ρ : Ev) (σ : St) (H : Hp) (i : Nat) : Slot → Prop
  | .un => True
  | .sh d => ∃ v, σ[i]? = some (some v) ∧ Rel F.S P (hide H (Off F P ρ σ)) d v
  | .ow xs => ∃ (a : Addr) (vs : List V), σ[i]? = some (some (V.ref a)) ∧ H a = some (.lst vs) ∧ (((F.H0 a = none ∧ (i ≠ 0 ∨ ∀ b, ¬ F.M0 b)) ∨ F.M0 a) ∧ ¬ F.B0 a) ∧ ¬ P a ∧ Rels F.S P (hide H (Off F P ρ σ)) xs vs
  | .sf c fs => ∃ (a dx : Addr) (vs : List V), σ[i]? = some (some (V.ref a)) ∧ H a = some (.ins (F.S.ct c) dx (((F.S.fn c).take fs.length).zip vs)) ∧ fs.length ≤ (F.S.fn c).length ∧ F.M0 a ∧ ¬ P a ∧ Rels F.S P (hide H (Off F P ρ σ)) fs vs
structure Lk (F : Fr) (P : AS) (ρ : Ev) (σ : St) (H : Hp) : Prop where
  len : ρ.sl.length = σ.length
  bp : ∀ a, F.P0 a → F.B0 a
  b0 : ∀ a, F.B0 a → ∃ o, H a = some o
  m0 : ∀ a, F.M0 a → (∃ o, F.H0 a = some o) ∧ ¬ F.P0 a
  pp : ∀ a, F.P0 a → P a
  pn : ∀ a, P a → PenAt H (hide H (Off F P ρ σ)) a (F.cap - ρ.bud)
  pf : ∀ a, P a → F.P0 a ∨ F.H0 a = none
  cap : ρ.bud ≤ F.cap ∧ F.cap ≤ LIM
  keep : ∀ a o, F.H0 a = some o → ¬ F.P0 a → ¬ F.M0 a → H a = some o
  mt : ∀ a, F.M0 a → ∃ o, H a = some o
  val : ∀ (i : Nat) (s : Slot), ρ.sl[i]? = some s → SlotOk F P ρ σ H i s
  apart : ∀ (i j : Nat) (s t : Slot) (a : Addr), ρ.sl[i]? = some s → ρ.sl[j]? = some t → s.owns = true → t.owns = true → σ[i]? = some (some (V.ref a)) → σ[j]? = some (some (V.ref a)) → i = j
section
variable {F : Fr} {P P' P'' : AS} {ρ ρ' ρ'' : Ev} {σ σ' : St} {H H' H'' : Hp}
theorem Lk.tracked (L : Lk F P ρ σ H) {a : Addr} (h : F.H0 a ≠ none) : ∃ o, H a = some o := by
  cases e : F.H0 a with
  | none => exact absurd e h
  | some o =>
    by_cases p : F.P0 a
    · obtain ⟨c, cs, k, r, h1, _⟩ := L.pn a (L.pp a p)
      exact ⟨_, h1⟩
    · by_cases m : F.M0 a
      · exact L.mt a m
      · exact ⟨o, L.keep a o e p m⟩
theorem Lk.off (L : Lk F P ρ σ H) {a : Addr} (h : Off F P ρ σ a) : ∃ o, H a = some o := by
  rcases h with h | h | ⟨i, s, h1, h2, h3⟩
  · exact L.b0 a h
  · obtain ⟨c, cs, k, r, h1, _⟩ := L.pn a h
    exact ⟨_, h1⟩
  · have q := L.val i s h1
    cases s with
    | un => cases h2
    | sh d => cases h2
    | ow xs =>
      obtain ⟨b, vs, e, e2, _⟩ := q
      rw [h3] at e
      injection e with e; injection e with e; injection e with e
      subst e
      exact ⟨_, e2⟩
    | sf c fs =>
      obtain ⟨b, dx, vs, e, e2, _⟩ := q
      rw [h3] at e
      injection e with e; injection e with e; injection e with e
      subst e
      exact ⟨_, e2⟩
/-- what is new is not tracked at the entry -/
theorem Lk.new0 (L : Lk F P ρ σ H) {a : Addr} (h : H a = none) : F.H0 a = none := by
  cases e : F.H0 a with
  | none => rfl
  | some o =>
    obtain ⟨u, q⟩ := L.tracked (a := a) (by rw [e]; simp)
    rw [h] at q; cases q
theorem Lk.newOff (L : Lk F P ρ σ H) {a : Addr} (h : H a = none) : ¬ Off F P ρ σ a := fun o => by
  obtain ⟨u, q⟩ := L.off o
  rw [h] at q; cases q
/-- a step that changes nothing but pens -/
structure Gr (F : Fr) (P : AS) (ρ : Ev) (σ : St) (H : Hp) (P' : AS) (ρ' : Ev) (H' : Hp) : Prop where
  lk : Lk F P' ρ' σ H'
  pp : ∀ a, P a → P' a
  pf : ∀ a, P' a → P a ∨ H a = none
  sl : ρ'.sl = ρ.sl
  bd : ρ'.bud ≤ ρ.bud
  kp : ∀ a o, H a = some o → ¬ P a → H' a = some o
theorem Lk.gr (L : Lk F P ρ σ H) : Gr F P ρ σ H P ρ H := ⟨L, fun _ h => h, fun _ h => .inl h, rfl, Nat.le_refl _, fun _ _ h _ => h⟩
theorem Gr.off (g : Gr F P ρ σ H P' ρ' H') (L : Lk F P ρ σ H) {a : Addr} : Off F P' ρ' σ a ↔ Off F P ρ σ a ∨ P' a := by
  unfold Off
  rw [g.sl]
  constructor
  · rintro (h | h | h)
    · exact .inl (.inl h)
    · exact .inr h
    · exact .inl (.inr (.inr h))
  · rintro ((h | h | h) | h)
    · exact .inl h
    · exact .inr (.inl (g.pp a h))
    · exact .inr (.inr h)
    · exact .inr (.inl h)
theorem Gr.hid (g : Gr F P ρ σ H P' ρ' H') (L : Lk F P ρ σ H) : ∀ a o, hide H (Off F P ρ σ) a = some o → hide H' (Off F P' ρ' σ) a = some o := fun a o h => by
  obtain ⟨h1, h2⟩ := hide_some.mp h
  have np : ¬ P a := fun z => h1 (.inr (.inl z))
  refine hide_some.mpr ⟨fun z => ?_, g.kp a o h2 np⟩
  rcases (g.off L).mp z with z | z
  · exact h1 z
  · rcases g.pf a z with z | z
    · exact np z
    · rw [h2] at z; cases z
theorem Gr.trans (L : Lk F P ρ σ H) (g : Gr F P ρ σ H P' ρ' H') (g2 : Gr F P' ρ' σ H' P'' ρ'' H'') : Gr F P ρ σ H P'' ρ'' H'' where
  lk := g2.lk
  pp := fun a h => g2.pp a (g.pp a h)
  pf := fun a h => by
    rcases g2.pf a h with h | h
    · exact g.pf a h
    · by_cases p : P a
      · exact .inl p
      · right
        cases e : H a with
        | none => rfl
        | some o => rw [g.kp a o e p] at h; cases h
  sl := g2.sl.trans g.sl
  bd := Nat.le_trans g2.bd g.bd
  kp := fun a o h np => by
    refine g2.kp a o (g.kp a o h np) fun p => ?_
    rcases g.pf a p with z | z
    · exact np z
    · rw [h] at z; cases z
/-- all that is tracked stays but pens: the names stay what they are -/
theorem Lk.grow (L : Lk F P ρ σ H) (hP : ∀ a, P a → P' a) (hF : ∀ a, P' a → P a ∨ H a = none) (hs : ρ'.sl = ρ.sl) (hb : ρ'.bud ≤ ρ.bud) (kp : ∀ a o, H a = some o → ¬ P a → H' a = some o)
    (pn : ∀ a, P' a → PenAt H' (hide H' (Off F P' ρ' σ)) a (F.cap - ρ'.bud)) : Gr F P ρ σ H P' ρ' H' := by
  have off : ∀ a, Off F P' ρ' σ a → Off F P ρ σ a ∨ P' a := fun a z => by
    unfold Off at z ⊢
    rw [hs] at z
    rcases z with z | z | z
    · exact .inl (.inl z)
    · exact .inr z
    · exact .inl (.inr (.inr z))
  have hid : ∀ a o, hide H (Off F P ρ σ) a = some o → hide H' (Off F P' ρ' σ) a = some o := fun a o h => by
    obtain ⟨h1, h2⟩ := hide_some.mp h
    have np : ¬ P a := fun z => h1 (.inr (.inl z))
    refine hide_some.mpr ⟨fun z => ?_, kp a o h2 np⟩
    rcases off a z with z | z
    · exact h1 z
    · rcases hF a z with z | z
      · exact np z
      · rw [h2] at z; cases z
  have b0' : ∀ a, F.B0 a → ∃ o, H' a = some o := fun a b => by
    by_cases p : P' a
    · obtain ⟨c, cs, k, r, h1, _⟩ := pn a p
      exact ⟨_, h1⟩
    · obtain ⟨o, e⟩ := L.b0 a b
      exact ⟨o, kp a o e fun z => p (hP a z)⟩
  refine ⟨⟨by rw [hs]; exact L.len, L.bp, b0', L.m0, fun a h => hP a (L.pp a h), pn, fun a h => ?_, ⟨Nat.le_trans hb L.cap.1, L.cap.2⟩, fun a o h np nm => ?_, fun a m => ?_, fun i s h => ?_, ?_⟩, hP, hF, hs, hb, kp⟩
  · rcases hF a h with h | h
    · exact L.pf a h
    · exact .inr (L.new0 h)
  · refine kp a o (L.keep a o h np nm) fun p => ?_
    rcases L.pf a p with z | z
    · exact np z
    · rw [h] at z; cases z
  · obtain ⟨o, h⟩ := L.mt a m
    refine ⟨o, kp a o h fun p => ?_⟩
    rcases L.pf a p with z | z
    · exact (L.m0 a m).2 z
    · obtain ⟨⟨u, e⟩, _⟩ := L.m0 a m
      rw [e] at z; cases z
  · rw [hs] at h
    have q := L.val i s h
    have notP : ∀ {a o}, H a = some o → ¬ P a → ¬ P' a := fun {a o} e np p => by
      rcases hF a p with z | z
      · exact np z
      · rw [e] at z; cases z
    cases s with
    | un => trivial
    | sh d =>
      obtain ⟨v, e, r⟩ := q
      exact ⟨v, e, r.mono hid hP⟩
    | ow xs =>
      obtain ⟨a, vs, e, e2, e3, np, r⟩ := q
      exact ⟨a, vs, e, kp _ _ e2 np, e3, notP e2 np, r.mono hid hP⟩
    | sf c fs =>
      obtain ⟨a, dx, vs, e, e2, e3, e4, np, r⟩ := q
      exact ⟨a, dx, vs, e, kp _ _ e2 np, e3, e4, notP e2 np, r.mono hid hP⟩
  · rw [hs]
    exact L.apart
/-- a new object is tracked -/
theorem Lk.new (L : Lk F P ρ σ H) {p : Addr} {o : HO} (h : H p = none) : Gr F P ρ σ H P ρ (upd H p o) := by
  have up : ∀ b u, H b = some u → upd H p o b = some u := fun b u e => by rw [upd_ne (ne_of_none e h)]; exact e
  exact L.grow (fun _ h => h) (fun _ h => .inl h) rfl (Nat.le_refl _) (fun a u e _ => up a u e) fun a z => (L.pn a z).keep up fun b u e => by
    obtain ⟨e1, e2⟩ := hide_some.mp e
    exact hide_some.mpr ⟨e1, up b u e2⟩
end
/-! ### how a value is told -/
abbrev RE := Fr → AS → Ev → St → Hp → D → V → Prop
/-- it may be kept anywhere -/
def VRs : RE := fun F P ρ σ H d v => Rel F.S P (hide H (Off F P ρ σ)) d v
/-- it may be looked at: one's own list, too -/
def VRb : RE := fun F P ρ σ H d v => VRs F P ρ σ H d v ∨ ∃ xs a vs, d = .lst xs ∧ v = .ref a ∧ H a = some (.lst vs) ∧ ¬ P a ∧ Rels F.S P (hide H (Off F P ρ σ)) xs vs
section
variable {F : Fr} {P P' P'' : AS} {ρ ρ' ρ'' : Ev} {σ σ' : St} {H H' H'' : Hp} {d : D} {v : V}
theorem VRs.b (r : VRs F P ρ σ H d v) : VRb F P ρ σ H d v := .inl r
theorem VRs.gr (L : Lk F P ρ σ H) (r : VRs F P ρ σ H d v) (g : Gr F P ρ σ H P' ρ' H') : VRs F P' ρ' σ H' d v := Rel.mono (g.hid L) g.pp d v r
theorem VRb.gr (L : Lk F P ρ σ H) (r : VRb F P ρ σ H d v) (g : Gr F P ρ σ H P' ρ' H') : VRb F P' ρ' σ H' d v := by
  rcases r with r | ⟨xs, a, vs, rfl, rfl, h1, h2, h3⟩
  · exact .inl (r.gr L g)
  · refine .inr ⟨xs, a, vs, rfl, rfl, g.kp _ _ h1 h2, fun p => ?_, h3.mono (g.hid L) g.pp⟩
    rcases g.pf a p with z | z
    · exact h2 z
    · rw [h1] at z; cases z
/-- what is looked at, in the whole heap -/
theorem VRb.rel (r : VRb F P ρ σ H d v) : Rel F.S P H d v := by
  rcases r with r | ⟨xs, a, vs, rfl, rfl, h1, h2, h3⟩
  · exact r.mono (fun a o q => (hide_some.mp q).2) fun _ z => z
  · exact ⟨a, vs, rfl, h1, h3.mono (fun a o q => (hide_some.mp q).2) fun _ z => z⟩
/-- a list that is looked at -/
theorem VRb.lst {xs : List D} (r : VRb F P ρ σ H (.lst xs) v) : ∃ a vs, v = .ref a ∧ H a = some (.lst vs) ∧ Rels F.S P (hide H (Off F P ρ σ)) xs vs := by
  rcases r with ⟨a, vs, rfl, q, r⟩ | ⟨xs, a, vs, e, rfl, h1, h2, h3⟩
  · exact ⟨a, vs, rfl, (hide_some.mp q).2, r⟩
  · cases e
    exact ⟨a, vs, rfl, h1, h3⟩
theorem VRb.tup {xs : List D} (r : VRb F P ρ σ H (.tup xs) v) : ∃ a vs, v = .ref a ∧ H a = some (.tup vs) ∧ Rels F.S P (hide H (Off F P ρ σ)) xs vs := by
  rcases r with ⟨a, vs, rfl, q, r⟩ | ⟨xs, a, vs, e, rfl, h1, h2, h3⟩
  · exact ⟨a, vs, rfl, (hide_some.mp q).2, r⟩
  · cases e
theorem VRb.s (r : VRb F P ρ σ H d v) (h : ∀ xs, d ≠ .lst xs) : VRs F P ρ σ H d v := by
  rcases r with r | ⟨xs, a, vs, e, _⟩
  · exact r
  · exact absurd e (h xs)
end
/-- by where one began and where one is -/
abbrev RR := Fr → AS → Ev → Hp → St → AS → Ev → Hp → D → V → Prop
def Rs : RR := fun F _ _ _ σ P ρ H d v => VRs F P ρ σ H d v
def Rb : RR := fun F _ _ _ σ P ρ H d v => VRb F P ρ σ H d v
/-- a new list that nobody else holds -/
def Rf : RR := fun F P₀ ρ₀ H₀ σ P ρ H d v => ∃ xs a vs Hm, d = .lst xs ∧ v = .ref a ∧ H = upd Hm a (.lst vs) ∧ Hm a = none ∧ Gr F P₀ ρ₀ σ H₀ P ρ Hm ∧ Rels F.S P (hide Hm (Off F P ρ σ)) xs vs
class Tr (R : RR) : Prop where
  tr : ∀ {F : Fr} {P P1 P2 : AS} {ρ ρ1 ρ2 : Ev} {σ : St} {H H1 H2 : Hp} {d : D} {v : V}, Lk F P ρ σ H → Gr F P ρ σ H P1 ρ1 H1 → R F P1 ρ1 H1 σ P2 ρ2 H2 d v → R F P ρ H σ P2 ρ2 H2 d v
instance : Tr Rs := ⟨fun _ _ r => r⟩
instance : Tr Rb := ⟨fun _ _ r => r⟩
instance : Tr Rf := ⟨fun L g ⟨xs, a, vs, Hm, h1, h2, h3, h4, h5, h6⟩ => ⟨xs, a, vs, Hm, h1, h2, h3, h4, g.trans L h5, h6⟩⟩
section
variable {F : Fr} {P P' P₀ : AS} {ρ ρ' ρ₀ : Ev} {σ : St} {H H' H₀ : Hp} {d : D} {v : V}
/-- a new object, shared -/
theorem rel_new (L : Lk F P ρ σ H) {p : Addr} {o : HO} (h : H p = none) : hide (upd H p o) (Off F P ρ σ) p = some o := hide_some.mpr ⟨L.newOff h, upd_same⟩
theorem rels_up (L : Lk F P ρ σ H) {p : Addr} {o : HO} (h : H p = none) {ds : List D} {vs : List V} (r : Rels F.S P (hide H (Off F P ρ σ)) ds vs) : Rels F.S P (hide (upd H p o) (Off F P ρ σ)) ds vs :=
  r.mono (fun a u q => by obtain ⟨q1, q2⟩ := hide_some.mp q; exact hide_some.mpr ⟨q1, by rw [upd_ne (ne_of_none q2 h)]; exact q2⟩) fun _ z => z
theorem new_lst (L : Lk F P ρ σ H) {p : Addr} (h : H p = none) {ds : List D} {vs : List V} (r : Rels F.S P (hide H (Off F P ρ σ)) ds vs) : VRs F P ρ σ (upd H p (.lst vs)) (.lst ds) (.ref p) :=
  ⟨p, vs, rfl, rel_new L h, rels_up L h r⟩
theorem new_tup (L : Lk F P ρ σ H) {p : Addr} (h : H p = none) {ds : List D} {vs : List V} (r : Rels F.S P (hide H (Off F P ρ σ)) ds vs) : VRs F P ρ σ (upd H p (.tup vs)) (.tup ds) (.ref p) :=
  ⟨p, vs, rfl, rel_new L h, rels_up L h r⟩
theorem fresh_lst (L : Lk F P ρ σ H) {p : Addr} (h : H p = none) {ds : List D} {vs : List V} (r : Rels F.S P (hide H (Off F P ρ σ)) ds vs) : Rf F P ρ H σ P ρ (upd H p (.lst vs)) (.lst ds) (.ref p) :=
  ⟨ds, p, vs, H, rfl, rfl, rfl, h, L.gr, r⟩
theorem Rf.s (r : Rf F P₀ ρ₀ H₀ σ P ρ H d v) : VRs F P ρ σ H d v := by
  obtain ⟨xs, a, vs, Hm, rfl, rfl, rfl, h1, g, h5⟩ := r
  exact new_lst g.lk h1 h5
end
/-! ### the lifted readings -/
abbrev TD := Ev → (D → Ev → Prop) → Prop
abbrev TDs := Ev → (List D → Ev → Prop) → Prop
abbrev TDt := Ev → (Bool → Ev → Prop) → Prop
structure En where
  nx : Ev → Prop
  rt : D → Ev → Prop
  bk : Ev → Prop := fun _ => False
  ct : Ev → Prop := fun _ => False
abbrev TDS := En → Ev → Prop
def up (R : RR) (F : Fr) (t : TD) : TE := fun σ H Q => ∃ P ρ Q', Lk F P ρ σ H ∧ t ρ Q' ∧ ∀ d v P' ρ' H', Gr F P ρ σ H P' ρ' H' → R F P ρ H σ P' ρ' H' d v → Q' d ρ' → Q v H'
def RsR (R : RE) (F : Fr) (P : AS) (ρ : Ev) (σ : St) (H : Hp) : List D → List V → Prop
  | [], vs => vs = []
  | d :: ds, vs => ∃ v r, vs = v :: r ∧ R F P ρ σ H d v ∧ RsR R F P ρ σ H ds r
def upA (R : RE) (F : Fr) (t : TDs) : TA := fun σ H Q => ∃ P ρ Q', Lk F P ρ σ H ∧ t ρ Q' ∧ ∀ ds vs P' ρ' H', Gr F P ρ σ H P' ρ' H' → RsR R F P' ρ' σ H' ds vs → Q' ds ρ' → Q vs H'
def upT (F : Fr) (t : TDt) : TT := fun σ H Q => ∃ P ρ Q', Lk F P ρ σ H ∧ t ρ Q' ∧ ∀ b P' ρ' H', Gr F P ρ σ H P' ρ' H' → Q' b ρ' → Q b H'
/-- what a def hands back -/
structure Back (F : Fr) (P' : AS) (H' : Hp) (d : D) (v : V) : Prop where
  pp : ∀ a, F.P0 a → P' a
  pf : ∀ a, P' a → F.P0 a ∨ F.H0 a = none
  pn : ∀ a, P' a → PenAt H' (hide H' fun a => F.B0 a ∨ P' a) a F.cap
  kp : ∀ a o, F.H0 a = some o → ¬ F.P0 a → ¬ F.M0 a → H' a = some o
  rel : Rel F.S P' (hide H' fun a => F.B0 a ∨ P' a) d v
/-- what was shared stays -/
structure Sy (F : Fr) (P : AS) (ρ : Ev) (σ : St) (H : Hp) (P' : AS) (ρ' : Ev) (σ' : St) (H' : Hp) : Prop where
  pp : ∀ a, P a → P' a
  hid : ∀ a o, hide H (Off F P ρ σ) a = some o → hide H' (Off F P' ρ' σ') a = some o
def upS (F : Fr) (t : TDS) : TS := fun D σ H => ∃ P ρ D', Lk F P ρ σ H ∧ t D' ρ ∧ (∀ P' ρ' σ' H', Lk F P' ρ' σ' H' → Sy F P ρ σ H P' ρ' σ' H' → D'.nx ρ' → D.nx σ' H') ∧ (∀ P' ρ' σ' H', Lk F P' ρ' σ' H' → Sy F P ρ σ H P' ρ' σ' H' → D'.bk ρ' → D.bk σ' H') ∧
  (∀ P' ρ' σ' H', Lk F P' ρ' σ' H' → Sy F P ρ σ H P' ρ' σ' H' → D'.ct ρ' → D.ct σ' H') ∧ ∀ d v P' ρ' σ' H', Lk F P' ρ' σ' H' → VRs F P' ρ' σ' H' d v → D'.rt d ρ' → D.rt v H'
section
variable {F : Fr} {P P' P'' : AS} {ρ ρ' ρ'' : Ev} {σ σ' σ'' : St} {H H' H'' : Hp} {d : D} {v : V}
theorem Sy.refl : Sy F P ρ σ H P ρ σ H := ⟨fun _ h => h, fun _ _ h => h⟩
theorem Sy.trans (a : Sy F P ρ σ H P' ρ' σ' H') (b : Sy F P' ρ' σ' H' P'' ρ'' σ'' H'') : Sy F P ρ σ H P'' ρ'' σ'' H'' := ⟨fun x h => b.pp x (a.pp x h), fun x o h => b.hid x o (a.hid x o h)⟩
theorem Gr.sy (g : Gr F P ρ σ H P' ρ' H') (L : Lk F P ρ σ H) : Sy F P ρ σ H P' ρ' σ H' := ⟨g.pp, g.hid L⟩
theorem VRs.sy (r : VRs F P ρ σ H d v) (g : Sy F P ρ σ H P' ρ' σ' H') : VRs F P' ρ' σ' H' d v := Rel.mono g.hid g.pp d v r
theorem Lk.backH (L : Lk F P ρ σ H) : ∀ a o, hide H (Off F P ρ σ) a = some o → hide H (fun a => F.B0 a ∨ P a) a = some o := fun a o q => by
  obtain ⟨q1, q2⟩ := hide_some.mp q
  exact hide_some.mpr ⟨fun z => q1 (by rcases z with z | z; exact .inl z; exact .inr (.inl z)), q2⟩
theorem Lk.back (L : Lk F P ρ σ H) (r : VRs F P ρ σ H d v) : Back F P H d v where
  pp := L.pp
  pf := L.pf
  pn := fun a h => ((L.pn a h).mono (Nat.sub_le _ _)).keep (fun _ _ z => z) L.backH
  kp := L.keep
  rel := r.mono L.backH fun _ z => z
end
theorem _root_.L2.PE.weak {X : Cx} {e : Expr} {t t' : TE} (h : PE X e t) (k : ∀ σ H Q, t' σ H Q → t σ H Q) : PE X e t' := ⟨fun pins s σ H Q I q => h.run pins s σ H Q I (k σ H Q q)⟩
theorem _root_.L2.PT.weak {X : Cx} {e : Expr} {t t' : TT} (h : PT X e t) (k : ∀ σ H Q, t' σ H Q → t σ H Q) : PT X e t' := ⟨fun pins s σ H Q I q => h.run pins s σ H Q I (k σ H Q q)⟩
theorem _root_.L2.PW.weak {X : Cx} {e : Expr} {t t' : TT} (h : PW X e t) (k : ∀ σ H Q, t' σ H Q → t σ H Q) : PW X e t' := ⟨fun w pins s σ H Q I q => h.run w pins s σ H Q I (k σ H Q q)⟩
theorem _root_.L2.PA.weak {X : Cx} {e : List Expr} {t t' : TA} (h : PA X e t) (k : ∀ σ H Q, t' σ H Q → t σ H Q) : PA X e t' := ⟨fun pos pins s σ H Q I q => h.run pos pins s σ H Q I (k σ H Q q)⟩
theorem _root_.L2.PK.weak {X : Cx} {e : List Keyword} {t t' : TA} (h : PK X e t) (k : ∀ σ H Q, t' σ H Q → t σ H Q) : PK X e t' := ⟨fun pos pins s σ H Q I q => h.run pos pins s σ H Q I (k σ H Q q)⟩
theorem _root_.L2.PS.weak {X : Cx} {e : Stmt} {t t' : TS} (h : PS X e t) (k : ∀ D σ H, t' D σ H → t D σ H) : PS X e t' := ⟨fun pins s σ H D I q => h.run pins s σ H D I (k D σ H q)⟩
theorem _root_.L2.PSs.weak {X : Cx} {e : List Stmt} {t t' : TS} (h : PSs X e t) (k : ∀ D σ H, t' D σ H → t D σ H) : PSs X e t' := ⟨fun pins s σ H D I q => h.run pins s σ H D I (k D σ H q)⟩
section
variable {X : Cx} {F : Fr} {e : Expr} {t : TD}
abbrev DE (X : Cx) (F : Fr) (e : Expr) (t : TD) : Prop := PE X e (up Rs F t)
abbrev DB (X : Cx) (F : Fr) (e : Expr) (t : TD) : Prop := PE X e (up Rb F t)
abbrev DF (X : Cx) (F : Fr) (e : Expr) (t : TD) : Prop := PE X e (up Rf F t)
abbrev DT (X : Cx) (F : Fr) (e : Expr) (t : TDt) : Prop := PT X e (upT F t)
abbrev DS (X : Cx) (F : Fr) (s : Stmt) (t : TDS) : Prop := PS X s (upS F t)
abbrev DSs (X : Cx) (F : Fr) (s : List Stmt) (t : TDS) : Prop := PSs X s (upS F t)
theorem DE.b (h : DE X F e t) : DB X F e t := h.weak fun σ H Q ⟨P, ρ, Q', L, q, k⟩ => ⟨P, ρ, Q', L, q, fun d v P' ρ' H' g r z => k d v P' ρ' H' g (VRs.b r) z⟩
theorem DF.s (h : DF X F e t) : DE X F e t := h.weak fun σ H Q ⟨P, ρ, Q', L, q, k⟩ => ⟨P, ρ, Q', L, q, fun d v P' ρ' H' g r z => k d v P' ρ' H' g (Rf.s r) z⟩
end
end DL
namespace DL
open PySem PySem.Spec PyProof.Rows L2
/-! ### what is asked of a value, to be computed -/
@[irreducible] def dIte (k : Bool) (A B : Prop) : Prop := if k = true then A else B
@[simp] theorem dIte_t {A B : Prop} : dIte true A B = A := by unfold dIte; simp
@[simp] theorem dIte_f {A B : Prop} : dIte false A B = B := by unfold dIte; simp
theorem dIte_i {k : Bool} {A B : Prop} (h1 : k = true → A) (h2 : k = false → B) : dIte k A B := by
  cases k with
  | true => rw [dIte_t]; exact h1 rfl
  | false => rw [dIte_f]; exact h2 rfl
theorem dIte_T {k : Bool} {A B : Prop} (h : k = true) (a : A) : dIte k A B := by subst h; rw [dIte_t]; exact a
theorem dIte_F {k : Bool} {A B : Prop} (h : k = false) (b : B) : dIte k A B := by subst h; rw [dIte_f]; exact b
def asB (x : D) (Q : Bool → Prop) : Prop := match x with
  | .bl k => Q k
  | _ => False
def asI (x : D) (Q : Int → Prop) : Prop := match x with
  | .int k => Q k
  | _ => False
def asI2 (x y : D) (Q : Int → Int → Prop) : Prop := match x, y with
  | .int i, .int j => Q i j
  | _, _ => False
def asL (x : D) (Q : List D → Prop) : Prop := match x with
  | .lst xs => Q xs
  | _ => False
def asIt (x : D) (Q : List D → Prop) : Prop := match x with
  | .lst xs => Q xs
  | .tup xs => Q xs
  | .str s => Q (s.cps.toList.map fun c => .str ⟨#[c]⟩)
  | _ => False
theorem asB_inv {x : D} {Q : Bool → Prop} (h : asB x Q) : ∃ k, x = .bl k ∧ Q k := by cases x <;> first | exact ⟨_, rfl, h⟩ | exact False.elim h
theorem asI_inv {x : D} {Q : Int → Prop} (h : asI x Q) : ∃ k, x = .int k ∧ Q k := by cases x <;> first | exact ⟨_, rfl, h⟩ | exact False.elim h
theorem asI2_inv {x y : D} {Q : Int → Int → Prop} (h : asI2 x y Q) : ∃ i j, x = .int i ∧ y = .int j ∧ Q i j := by cases x <;> cases y <;> first | exact ⟨_, _, rfl, rfl, h⟩ | exact False.elim h
theorem asL_inv {x : D} {Q : List D → Prop} (h : asL x Q) : ∃ xs, x = .lst xs ∧ Q xs := by cases x <;> first | exact ⟨_, rfl, h⟩ | exact False.elim h
/-- sizes that are let -/
abbrev SZ : Nat := 1000000
theorem sz_line {n : Nat} (h : n ≤ SZ) : n ≤ sizeLine := by rw [sizeLine_eq]; have : SZ = 1000000 := rfl; omega
theorem sz_lt {n : Nat} (h : n ≤ SZ) : n < sizeLine := by rw [sizeLine_eq]; have : SZ = 1000000 := rfl; omega
/-! ### plain data as the library's data -/
mutual
def D.py : D → PyData
  | .non => .none
  | .bl b => .bool b
  | .int i => .int i
  | .str x => .str x
  | .lst xs => .list (D.pys xs)
  | .tup xs => .tuple (D.pys xs)
  | .dic _ _ => .none
  | .obj _ _ => .none
  | .exc _ _ => .none
  | .pen => .none
  | .scr _ => .none
def D.pys : List D → List PyData
  | [] => []
  | x :: xs => D.py x :: D.pys xs
end
mutual
/-- data at most n deep, whose texts are texts -/
def D.wf : Nat → D → Bool
  | _, .non => true
  | _, .bl _ => true
  | _, .int _ => true
  | _, .str x => PyData.strOk x
  | 0, .lst _ => false
  | 0, .tup _ => false
  | n + 1, .lst xs => D.wfs n xs
  | n + 1, .tup xs => D.wfs n xs
  | _, .dic _ _ => false
  | _, .obj _ _ => false
  | _, .exc _ _ => false
  | _, .pen => false
  | _, .scr _ => false
def D.wfs : Nat → List D → Bool
  | _, [] => true
  | n, x :: xs => D.wf n x && D.wfs n xs
end
theorem wfs_all {n : Nat} : ∀ {xs : List D}, D.wfs n xs = true ↔ ∀ x ∈ xs, D.wf n x = true
  | [] => by simp [D.wfs]
  | x :: xs => by simp [D.wfs, wfs_all (xs := xs)]
mutual
theorem wf_lay {n : Nat} : ∀ (d : D), D.wf n d = true → d.py.canLay0 = true ∧ d.py.depth ≤ n
  | .non, _ => by simp [D.py, PyData.canLay0, PyData.depth]
  | .bl _, _ => by simp [D.py, PyData.canLay0, PyData.depth]
  | .int _, _ => by simp [D.py, PyData.canLay0, PyData.depth]
  | .str x, h => by
    have h' : PyData.strOk x = true := by cases n <;> simpa [D.wf] using h
    simp [D.py, PyData.canLay0, PyData.depth, h']
  | .lst xs, h => by
    cases n with
    | zero => simp [D.wf] at h
    | succ n =>
      obtain ⟨h1, h2⟩ := wfs_lay (n := n) xs (by simpa [D.wf] using h)
      simp only [D.py, PyData.canLay0, PyData.depth]
      exact ⟨h1, by omega⟩
  | .tup xs, h => by
    cases n with
    | zero => simp [D.wf] at h
    | succ n =>
      obtain ⟨h1, h2⟩ := wfs_lay (n := n) xs (by simpa [D.wf] using h)
      simp only [D.py, PyData.canLay0, PyData.depth]
      exact ⟨h1, by omega⟩
  | .dic _ _, h => by cases n <;> simp [D.wf] at h
  | .obj _ _, h => by cases n <;> simp [D.wf] at h
  | .exc _ _, h => by cases n <;> simp [D.wf] at h
  | .pen, h => by cases n <;> simp [D.wf] at h
  | .scr _, h => by cases n <;> simp [D.wf] at h
theorem wfs_lay {n : Nat} : ∀ (ds : List D), D.wfs n ds = true → PyData.canLayAll0 (D.pys ds) = true ∧ PyData.depthAll (D.pys ds) ≤ n
  | [], _ => by simp [D.pys, PyData.canLayAll0, PyData.depthAll]
  | d :: ds, h => by
    have h' : D.wf n d = true ∧ D.wfs n ds = true := by simpa [D.wfs] using h
    obtain ⟨h1, h2⟩ := wf_lay d h'.1
    obtain ⟨h3, h4⟩ := wfs_lay ds h'.2
    simp only [D.pys, PyData.canLayAll0, PyData.depthAll, h1, h3, Bool.and_true, true_and]
    omega
end
@[irreducible] def WfN (n : Nat) (d : D) : Prop := D.wf n d = true
@[irreducible] def WfsN (n : Nat) (ds : List D) : Prop := D.wfs n ds = true
theorem WfN.out {n : Nat} {d : D} (h : WfN n d) : D.wf n d = true := by unfold WfN at h; exact h
theorem WfN.of {n : Nat} {d : D} (h : D.wf n d = true) : WfN n d := by unfold WfN; exact h
theorem WfsN.out {n : Nat} {d : List D} (h : WfsN n d) : D.wfs n d = true := by unfold WfsN at h; exact h
theorem WfsN.of {n : Nat} {d : List D} (h : D.wfs n d = true) : WfsN n d := by unfold WfsN; exact h
@[irreducible] def RepOk (d : D) : Prop := d.py.showable = true ∧ d.py.shown.length ≤ SZ
theorem RepOk.out {d : D} (h : RepOk d) : d.py.showable = true ∧ d.py.shown.length ≤ SZ := by unfold RepOk at h; exact h
theorem RepOk.of {d : D} (h : d.py.showable = true ∧ d.py.shown.length ≤ SZ) : RepOk d := by unfold RepOk; exact h
theorem wf_shaped {d : D} (h : D.wf 64 d = true) : SeqAt.shaped d.py = true := by
  obtain ⟨h1, h2⟩ := wf_lay d h
  simp [SeqAt.shaped, h1, h2]
section
variable {S : Sg} {P : AS} {H : Hp}
mutual
theorem Rel.dp {n : Nat} : ∀ (d : D) (v : V), D.wf n d = true → Rel S P H d v → Dp S.K H v d.py
  | .non, _, _, r => by have r : _ = V.non := r; subst r; exact .non
  | .bl b, _, _, r => by have r : _ = V.bl b := r; subst r; exact .bl b
  | .int i, _, _, r => by have r : _ = V.int i := r; subst r; exact .int i
  | .str i, _, _, r => by have r : _ = V.str i := r; subst r; exact .str i
  | .lst xs, _, w, ⟨a, vs, e, q, r⟩ => by
    cases n with
    | zero => simp [D.wf] at w
    | succ n =>
      subst e
      exact .lst (SqL.of q) (Rels.dp (n := n) xs vs (by simpa [D.wf] using w) r)
  | .tup xs, _, w, ⟨a, vs, e, q, r⟩ => by
    cases n with
    | zero => simp [D.wf] at w
    | succ n =>
      subst e
      exact .tup (SqT.of q) (Rels.dp (n := n) xs vs (by simpa [D.wf] using w) r)
  | .dic _ _, _, w, _ => by cases n <;> simp [D.wf] at w
  | .obj _ _, _, w, _ => by cases n <;> simp [D.wf] at w
  | .exc _ _, _, w, _ => by cases n <;> simp [D.wf] at w
  | .pen, _, w, _ => by cases n <;> simp [D.wf] at w
  | .scr _, _, w, _ => by cases n <;> simp [D.wf] at w
theorem Rels.dp {n : Nat} : ∀ (ds : List D) (vs : List V), D.wfs n ds = true → Rels S P H ds vs → DpAll S.K H vs (D.pys ds)
  | [], _, _, r => by have r : _ = [] := r; subst r; exact .nil
  | d :: ds, _, w, ⟨v, r, e, q, t⟩ => by
    have w' : D.wf n d = true ∧ D.wfs n ds = true := by simpa [D.wfs] using w
    subst e
    exact .cons (Rel.dp d v w'.1 q) (Rels.dp ds r w'.2 t)
end
end
/-- == of plain data -/
def D.eqb (x y : D) : Bool := PyData.eqv x.py y.py
/-! ### operators over two values -/
abbrev W1 := D → (D → Prop) → Prop
abbrev W2 := D → D → (D → Prop) → Prop
def Op2 (R : RR) (F : Fr) (r : R2) (dr : W2) : Prop := ∀ (P : AS) (ρ : Ev) (σ : St) (H : Hp) (x y : D) (v w : V) (Q : VK) (Q' : D → Prop), Lk F P ρ σ H → VRb F P ρ σ H x v → VRb F P ρ σ H y w → dr x y Q' →
  (∀ d u H', Gr F P ρ σ H P ρ H' → R F P ρ H σ P ρ H' d u → Q' d → Q u H') → r v w H Q
def Op1 (R : RR) (F : Fr) (r : V → Hp → VK → Prop) (dr : W1) : Prop := ∀ (P : AS) (ρ : Ev) (σ : St) (H : Hp) (x : D) (v : V) (Q : VK) (Q' : D → Prop), Lk F P ρ σ H → VRb F P ρ σ H x v → dr x Q' →
  (∀ d u H', Gr F P ρ σ H P ρ H' → R F P ρ H σ P ρ H' d u → Q' d → Q u H') → r v H Q
def w2 (dr : W2) (ta tb : TD) : TD := fun ρ Q => ta ρ fun x ρ1 => tb ρ1 fun y ρ2 => dr x y fun d => Q d ρ2
def w1 (dr : W1) (ta : TD) : TD := fun ρ Q => ta ρ fun x ρ1 => dr x fun d => Q d ρ1
section
variable {X : Cx} {F : Fr} {R : RR} [Tr R] {r : R2} {dr : W2} {ta tb tc : TD} {a b c : Expr} {pos : Pos}
theorem tOp_up (h : Op2 R F r dr) : ∀ σ H Q, up R F (w2 dr ta tb) σ H Q → tOp r (up Rb F ta) (up Rb F tb) σ H Q := fun σ H Q ⟨P, ρ, Q', L, q, k⟩ =>
  ⟨P, ρ, _, L, q, fun x v P1 ρ1 H1 g1 r1 q1 => ⟨P1, ρ1, _, g1.lk, q1, fun y w P2 ρ2 H2 g2 r2 q2 =>
    h P2 ρ2 σ H2 x y v w Q _ g2.lk (r1.gr g1.lk g2) r2 q2 fun d u H3 g3 r3 q3 => k d u P2 ρ2 H3 (g1.trans L (g2.trans g1.lk g3)) (Tr.tr L (g1.trans L g2) r3) q3⟩⟩
theorem d_bin {op : Operator} (ho : OpR X (binaryOp op) r) (h : Op2 R F r dr) (ha : DB X F a ta) (hb : DB X F b tb) : PE X (.BinOp a op b pos) (up R F (w2 dr ta tb)) := (pe_op ho ha hb).weak (tOp_up h)
theorem d_cmp {op : CmpOp} (ho : OpR X (compareOp op) r) (h : Op2 R F r dr) (ha : DB X F a ta) (hb : DB X F b tb) (hm : behindInMarks op b = false) : PE X (.Compare a [op] [b] pos) (up R F (w2 dr ta tb)) := (pe_cmpR ho ha hb hm).weak (tOp_up h)
theorem d_un {op : UnaryOp} {r1 : V → Hp → VK → Prop} {d1 : W1} (ho : UnR X (unaryOp op) r1) (h : Op1 R F r1 d1) (ha : DB X F a ta) : PE X (.UnaryOp op a pos) (up R F (w1 d1 ta)) := (pe_un ho ha).weak fun σ H Q ⟨P, ρ, Q', L, q, k⟩ =>
  ⟨P, ρ, _, L, q, fun x v P1 ρ1 H1 g1 r1 q1 => h P1 ρ1 σ H1 x v Q _ g1.lk r1 q1 fun d u H3 g3 r3 q3 => k d u P1 ρ1 H3 (g1.trans L g3) (Tr.tr L g1 r3) q3⟩
/-- a value as a test: it is True or False -/
def wB (t : TD) : TDt := fun ρ Q => t ρ fun x ρ1 => asB x fun k => Q k ρ1
theorem test_up {t : TD} : ∀ σ H Q, upT F (wB t) σ H Q → tTest (up Rs F t) σ H Q := fun σ H Q ⟨P, ρ, Q', L, q, k⟩ =>
  ⟨P, ρ, _, L, q, fun x v P1 ρ1 H1 g1 r1 q0 => by obtain ⟨c, e, q1⟩ := asB_inv q0; subst e; exact ⟨c, r1, k c P1 ρ1 H1 g1 q1⟩⟩
theorem tTest_mono {t t' : TE} (h : ∀ σ H Q, t' σ H Q → t σ H Q) : ∀ σ H Q, tTest t' σ H Q → tTest t σ H Q := fun σ H Q q => h σ H _ q
theorem dt_cmp {op : CmpOp} (ho : OpR X (compareOp op) r) (h : Op2 Rs F r dr) (ha : DB X F a ta) (hb : DB X F b tb) (hm : behindInMarks op b = false) : DT X F (.Compare a [op] [b] pos) (wB (w2 dr ta tb)) :=
  (pt_cmpR ho ha hb hm).weak fun σ H Q q => tTest_mono (tOp_up h) σ H Q (test_up σ H Q q)
end
/-- an operator's answer without an object -/
theorem Op2.flat {F : Fr} {r : R2} {dr : W2} (h : ∀ (P : AS) (ρ : Ev) (σ : St) (H : Hp) (x y : D) (v w : V) (Q : VK) (Q' : D → Prop), Lk F P ρ σ H → VRb F P ρ σ H x v → VRb F P ρ σ H y w → dr x y Q' → (∀ d u, Rel F.S P (hide H (Off F P ρ σ)) d u → Q' d → Q u H) → r v w H Q) : Op2 Rs F r dr :=
  fun P ρ σ H x y v w Q Q' L rx ry q k => h P ρ σ H x y v w Q Q' L rx ry q fun d u hd qd => k d u H L.gr hd qd
theorem VRb.int {F : Fr} {P : AS} {ρ : Ev} {σ : St} {H : Hp} {i : Int} {v : V} (r : VRb F P ρ σ H (.int i) v) : v = .int i := r.s (fun _ z => nomatch z)
theorem VRb.str {F : Fr} {P : AS} {ρ : Ev} {σ : St} {H : Hp} {i : Str} {v : V} (r : VRb F P ρ σ H (.str i) v) : v = .str i := r.s (fun _ z => nomatch z)
theorem VRb.bl {F : Fr} {P : AS} {ρ : Ev} {σ : St} {H : Hp} {i : Bool} {v : V} (r : VRb F P ρ σ H (.bl i) v) : v = .bl i := r.s (fun _ z => nomatch z)
theorem VRb.non {F : Fr} {P : AS} {ρ : Ev} {σ : St} {H : Hp} {v : V} (r : VRb F P ρ σ H .non v) : v = .non := r.s (fun _ z => nomatch z)
/-- two ints -/
def dI (C : Int → Int → Prop) (g : Int → Int → D) : W2 := fun x y Q => asI2 x y fun i j => C i j ∧ Q (g i j)
def dI0 (g : Int → Int → D) : W2 := fun x y Q => asI2 x y fun i j => Q (g i j)
theorem o_I {F : Fr} {C : Int → Int → Prop} {g : Int → Int → V} {g' : Int → Int → D} (hg : ∀ (P : AS) (H : Hp) i j, Rel F.S P H (g' i j) (g i j)) : Op2 Rs F (rI C g) (dI C g') := .flat fun P ρ σ H x y v w Q Q' L rx ry q0 k => by
  obtain ⟨i, j, e1, e2, c, q⟩ := asI2_inv q0
  subst e1 e2
  exact ⟨i, j, rx.int, ry.int, c, k _ _ (hg _ _ i j) q⟩
theorem o_I0 {F : Fr} {g : Int → Int → V} {g' : Int → Int → D} (hg : ∀ (P : AS) (H : Hp) i j, Rel F.S P H (g' i j) (g i j)) : Op2 Rs F (rI0 g) (dI0 g') := .flat fun P ρ σ H x y v w Q Q' L rx ry q0 k => by
  obtain ⟨i, j, e1, e2, q⟩ := asI2_inv q0
  subst e1 e2
  exact ⟨i, j, rx.int, ry.int, k _ _ (hg _ _ i j) q⟩
section
variable {X : Cx} {F : Fr} {R : RR} [Tr R] {ta tb tc : TD} {a b c : Expr} {pos : Pos}
/-! ### + -/
def dAdd : W2 := fun x y Q => match x, y with
  | .int i, .int j => Q (.int (i + j))
  | .str s, .str t => s.length + t.length ≤ SZ ∧ Q (.str (s ++ t))
  | .lst xs, .lst ys => xs.length + ys.length ≤ SZ ∧ Q (.lst (xs ++ ys))
  | .tup xs, .tup ys => xs.length + ys.length ≤ SZ ∧ Q (.tup (xs ++ ys))
  | _, _ => False
def rAddT (K : PySem.W.Frag) : R2 := fun x y H Q => ((rI0 (fun i j => V.int (i + j)) x y H Q ∨ (∃ i j, x = .str i ∧ y = .str j ∧ i.length + j.length ≤ sizeLine ∧ Q (.str (i ++ j)) H)) ∨ rCat x y H Q) ∨ rCatA K x y H Q
theorem op_addT : OpR X (binaryOp .Add) (rAddT X.K) := ((op_add.or op_add_str).or op_cat).or op_catA
theorem rels_len {P : AS} {H : Hp} {ds : List D} {vs : List V} {n : Nat} (r : Rels F.S P H ds vs) (h : ds.length ≤ n) : vs.length ≤ n := by rw [r.length]; exact h
theorem o_add : Op2 Rs F (rAddT F.S.K) dAdd := fun P ρ σ H x y v w Q Q' L rx ry q k => by
  cases x <;> cases y <;> try exact False.elim q
  case int.int i j => exact .inl (.inl (.inl ⟨i, j, rx.int, ry.int, k (.int (i + j)) _ H L.gr rfl q⟩))
  case str.str i j => exact .inl (.inl (.inr ⟨i, j, rx.str, ry.str, sz_line q.1, k (.str (i ++ j)) _ H L.gr rfl q.2⟩))
  case lst.lst xs ys =>
    obtain ⟨a, vs, rfl, h1, r1⟩ := rx.lst
    obtain ⟨b, ws, rfl, h2, r2⟩ := ry.lst
    exact .inl (.inr ⟨a, b, vs, ws, rfl, rfl, h1, h2, by rw [r1.length, r2.length]; exact sz_line q.1, fun p hp => k _ _ _ (L.new hp) (new_lst L hp (r1.append r2)) q.2⟩)
  case tup.tup xs ys =>
    obtain ⟨a, vs, rfl, h1, r1⟩ := rx.tup
    obtain ⟨b, ws, rfl, h2, r2⟩ := ry.tup
    refine .inr ⟨a, b, vs, ws, rfl, rfl, SqT.of h1, SqT.of h2, by rw [r1.length, r2.length]; exact sz_line q.1, ?_⟩
    have le : ∀ {ds : List D} {us : List V}, Rels F.S P (hide H (Off F P ρ σ)) ds us → us = [] → ds = [] := fun {ds us} r e => by
      have := r.length; rw [e] at this
      exact List.eq_nil_of_length_eq_zero this.symm
    refine ⟨fun e => ?_, fun _ e => ?_, fun _ _ p hp => k _ _ _ (L.new hp) (new_tup L hp (r1.append r2)) q.2⟩
    · have e' := le r1 e; subst e'
      exact k _ _ H L.gr (ry.s fun _ z => nomatch z) q.2
    · have e' := le r2 e; subst e'
      have q2 : Q' (.tup (xs ++ [])) := q.2
      rw [List.append_nil] at q2
      exact k _ _ H L.gr (rx.s fun _ z => nomatch z) q2
end
section
variable {X : Cx} {F : Fr} {R : RR} [Tr R] {ta tb tc : TD} {a b c : Expr} {pos : Pos}
theorem OpR.weak {f : Value → Value → Sem Value} {r : R2} (h : OpR X f r) : OpR X f r := h
theorem o_sub : Op2 Rs F (rI0 fun i j => V.int (i - j)) (dI0 fun i j => .int (i - j)) := o_I0 fun _ _ _ _ => rfl
/-! ### *, //, %, ** -/
def CMulT (i j : Int) : Prop := CMul i j ∨ CMulW i j
def dMul : W2 := fun x y Q => match x, y with
  | .int i, .int j => CMulT i j ∧ Q (.int (i * j))
  | .lst xs, .int k => 0 ≤ k ∧ xs.length * k.toNat ≤ SZ ∧ k ≤ SZ ∧ Q (.lst (List.replicate k.toNat xs).flatten)
  | _, _ => False
def rMulT : R2 := fun x y H Q => (rI CMul (fun i j => V.int (i * j)) x y H Q ∨ rI CMulW (fun i j => V.int (i * j)) x y H Q) ∨ rRep x y H Q
theorem op_mulT : OpR X (binaryOp .Mult) rMulT := (op_mul.or op_mulW).or op_rep
theorem o_mul : Op2 Rs F rMulT dMul := fun P ρ σ H x y v w Q Q' L rx ry q k => by
  cases x <;> cases y <;> try exact False.elim q
  case int.int i j => exact .inl (q.1.imp (fun c => ⟨i, j, rx.int, ry.int, c, k (.int (i * j)) _ H L.gr rfl q.2⟩) fun c => ⟨i, j, rx.int, ry.int, c, k (.int (i * j)) _ H L.gr rfl q.2⟩)
  case lst.int xs i =>
    obtain ⟨a, vs, rfl, h1, r1⟩ := rx.lst
    obtain ⟨q0, q1, q2, q3⟩ := q
    have s : SZ = 1000000 := rfl
    exact .inr ⟨a, i, vs, rfl, ry.int, h1, by omega, by omega, by rw [r1.length]; exact sz_line q1, fun p hp => k _ _ _ (L.new hp) (new_lst L hp (r1.rep _)) q3⟩
theorem o_fdiv : Op2 Rs F (rI CDivW fun i j => V.int (i / j)) (dI CDivW fun i j => .int (i / j)) := o_I fun _ _ _ _ => rfl
theorem o_mod : Op2 Rs F (rI (fun _ j => 0 < j) fun i j => V.int (i % j)) (dI (fun _ j => 0 < j) fun i j => .int (i % j)) := o_I fun _ _ _ _ => rfl
theorem o_pow : Op2 Rs F (rI CPow fun i j => V.int (i ^ j.toNat)) (dI CPow fun i j => .int (i ^ j.toNat)) := o_I fun _ _ _ _ => rfl
theorem o_shl : Op2 Rs F (rI CPow fun i j => V.int (i * 2 ^ j.toNat)) (dI CPow fun i j => .int (i * 2 ^ j.toNat)) := o_I fun _ _ _ _ => rfl
theorem o_shr : Op2 Rs F (rI (fun _ j => 0 ≤ j) fun i j => V.int (i / 2 ^ j.toNat)) (dI (fun _ j => 0 ≤ j) fun i j => .int (i / 2 ^ j.toNat)) := o_I fun _ _ _ _ => rfl
theorem o_band : Op2 Rs F (rI0 fun i j => V.int (Builtin.bitAnd i j)) (dI0 fun i j => .int (Builtin.bitAnd i j)) := o_I0 fun _ _ _ _ => rfl
theorem o_bor : Op2 Rs F (rI0 fun i j => V.int (Builtin.bitOr i j)) (dI0 fun i j => .int (Builtin.bitOr i j)) := o_I0 fun _ _ _ _ => rfl
def dNeg : W1 := fun x Q => asI x fun i => Q (.int (-i))
theorem o_neg : Op1 Rs F (rU fun i => V.int (-i)) dNeg := fun P ρ σ H x v Q Q' L rx q0 k => by
  obtain ⟨i, e, q⟩ := asI_inv q0
  subst e
  exact ⟨i, rx.int, k (.int (-i)) _ H L.gr rfl q⟩
/-! ### comparisons -/
def dLt : W2 := fun x y Q => match x, y with
  | .int i, .int j => Q (.bl (decide (i < j)))
  | .str s, .str t => Q (.bl (decide (s.cps.toList < t.cps.toList)))
  | _, _ => False
def rLtA : R2 := fun x y H Q => rI0 (fun i j => V.bl (decide (i < j))) x y H Q ∨ (∃ i j, x = .str i ∧ y = .str j ∧ Q (.bl (decide (i.cps.toList < j.cps.toList))) H)
theorem op_ltA : OpR X (compareOp .Lt) rLtA := op_lt.or op_lt_str
theorem o_lt : Op2 Rs F rLtA dLt := .flat fun P ρ σ H x y v w Q Q' L rx ry q k => by
  cases x <;> cases y <;> try exact False.elim q
  case int.int i j => exact .inl ⟨i, j, rx.int, ry.int, k (.bl _) _ rfl q⟩
  case str.str i j => exact .inr ⟨i, j, rx.str, ry.str, k (.bl _) _ rfl q⟩
theorem o_le : Op2 Rs F (rI0 fun i j => V.bl (decide (i ≤ j))) (dI0 fun i j => .bl (decide (i ≤ j))) := o_I0 fun _ _ _ _ => rfl
theorem o_gt : Op2 Rs F (rI0 fun i j => V.bl (decide (j < i))) (dI0 fun i j => .bl (decide (j < i))) := o_I0 fun _ _ _ _ => rfl
theorem o_ge : Op2 Rs F (rI0 fun i j => V.bl (decide (j ≤ i))) (dI0 fun i j => .bl (decide (j ≤ i))) := o_I0 fun _ _ _ _ => rfl
def dEq : W2 := fun x y Q => (WfN 64 x ∧ WfN 64 y) ∧ Q (.bl (D.eqb x y))
def dNe : W2 := fun x y Q => (WfN 64 x ∧ WfN 64 y) ∧ Q (.bl (!D.eqb x y))
theorem o_eq : Op2 Rs F (rEqD F.S.K) dEq := .flat fun P ρ σ H x y v w Q Q' L rx ry ⟨⟨w1', w2'⟩, q⟩ k => by
  have w1 := w1'.out
  have w2 := w2'.out
  exact
  ⟨x.py, y.py, Rel.dp x v w1 rx.rel, Rel.dp y w w2 ry.rel, wf_shaped w1, wf_shaped w2, k (.bl (D.eqb x y)) _ rfl q⟩
theorem o_ne : Op2 Rs F (rNeD F.S.K) dNe := .flat fun P ρ σ H x y v w Q Q' L rx ry ⟨⟨w1', w2'⟩, q⟩ k => by
  have w1 := w1'.out
  have w2 := w2'.out
  exact
  ⟨x.py, y.py, Rel.dp x v w1 rx.rel, Rel.dp y w w2 ry.rel, wf_shaped w1, wf_shaped w2, k (.bl (!D.eqb x y)) _ rfl q⟩
/-- x is None, is not None -/
def D.isN : D → Bool
  | .non => true
  | _ => false
def dIsN : W2 := fun x y Q => y = .non ∧ Q (.bl x.isN)
def dNotN : W2 := fun x y Q => y = .non ∧ Q (.bl (!x.isN))
theorem isN_rel {S : Sg} {P : AS} {H : Hp} {x : D} {v : V} (r : Rel S P H x v) : decide (v = V.non) = x.isN := by
  cases x with
  | non => have r : v = _ := r; subst r; rfl
  | bl b => have r : v = _ := r; subst r; rfl
  | int b => have r : v = _ := r; subst r; rfl
  | str b => have r : v = _ := r; subst r; rfl
  | lst xs => obtain ⟨a, vs, e, _⟩ := r; subst e; rfl
  | tup xs => obtain ⟨a, vs, e, _⟩ := r; subst e; rfl
  | dic ks xs => obtain ⟨a, vs, e, _⟩ := r; subst e; rfl
  | obj c xs => obtain ⟨a, dx, vs, e, _⟩ := r; subst e; rfl
  | exc c xs => exact False.elim r
  | pen => obtain ⟨a, e, _⟩ := r; subst e; rfl
  | scr n => obtain ⟨a, e, _⟩ := r; subst e; rfl
theorem o_isN : Op2 Rs F (fun x y H Q => y = .non ∧ Q (.bl (decide (x = .non))) H) dIsN := .flat fun P ρ σ H x y v w Q Q' L rx ry ⟨e, q⟩ k => by
  subst e
  refine ⟨ry.non, k (.bl x.isN) _ ?_ q⟩
  show V.bl _ = V.bl _
  rw [isN_rel rx.rel]
theorem o_notN : Op2 Rs F (fun x y H Q => y = .non ∧ Q (.bl (!decide (x = .non))) H) dNotN := .flat fun P ρ σ H x y v w Q Q' L rx ry ⟨e, q⟩ k => by
  subst e
  refine ⟨ry.non, k (.bl (!x.isN)) _ ?_ q⟩
  show V.bl _ = V.bl _
  rw [isN_rel rx.rel]
/-- a < b < c, b asked once -/
def wChain (d1 d2 : W2) (ta tb tc : TD) : TD := fun ρ Q => ta ρ fun x ρ1 => tb ρ1 fun y ρ2 => d1 x y fun z => asB z fun k => dIte k (tc ρ2 fun u ρ3 => d2 y u fun d => Q d ρ3) (Q (.bl false) ρ2)
theorem tChain_up {r r' : R2} {d1 d2 : W2} (h : Op2 Rs F r d1) (h' : Op2 Rs F r' d2) : ∀ σ H Q, up Rs F (wChain d1 d2 ta tb tc) σ H Q → tChain r r' (up Rb F ta) (up Rb F tb) (up Rb F tc) σ H Q := fun σ H Q ⟨P, ρ, Q', L, q, k⟩ =>
  ⟨P, ρ, _, L, q, fun x v P1 ρ1 H1 g1 r1 q1 => ⟨P1, ρ1, _, g1.lk, q1, fun y w P2 ρ2 H2 g2 r2 q2 =>
    h P2 ρ2 σ H2 x y v w _ _ g2.lk (r1.gr g1.lk g2) r2 q2 fun z u H3 g3 r3 q0 => by
      obtain ⟨b, e, q3⟩ := asB_inv q0
      subst e
      refine ⟨b, r3, ?_⟩
      cases b with
      | true =>
        refine iteT ?_
        exact ⟨P2, ρ2, _, g3.lk, by simpa using q3, fun u' w' P4 ρ4 H4 g4 r4 q4 => h' P4 ρ4 σ H4 y u' w w' Q _ g4.lk ((r2.gr g2.lk g3).gr g3.lk g4) r4 q4 fun d u5 H5 g5 r5 q5 => k d u5 P4 ρ4 H5 (g1.trans L (g2.trans g1.lk (g3.trans g2.lk (g4.trans g3.lk g5)))) r5 q5⟩
      | false =>
        refine iteF ?_
        exact k (.bl false) _ P2 ρ2 H3 (g1.trans L (g2.trans g1.lk g3)) rfl (by simpa using q3)⟩⟩
theorem de_chain {op op' : CmpOp} {r r' : R2} {d1 d2 : W2} (ho : OpR X (compareOp op) r) (ho' : OpR X (compareOp op') r') (h : Op2 Rs F r d1) (h' : Op2 Rs F r' d2) (ha : DB X F a ta) (hb : DB X F b tb) (hc : DB X F c tc)
    (hm : lastMarks [op, op'] [b, c] = false := by with_unfolding_all rfl) : DE X F (.Compare a [op, op'] [b, c] pos) (wChain d1 d2 ta tb tc) := (pe_chain ho ho' ha hb hc hm).weak (tChain_up h h')
theorem dt_chain {op op' : CmpOp} {r r' : R2} {d1 d2 : W2} (ho : OpR X (compareOp op) r) (ho' : OpR X (compareOp op') r') (h : Op2 Rs F r d1) (h' : Op2 Rs F r' d2) (ha : DB X F a ta) (hb : DB X F b tb) (hc : DB X F c tc)
    (hm : lastMarks [op, op'] [b, c] = false := by with_unfolding_all rfl) : DT X F (.Compare a [op, op'] [b, c] pos) (wB (wChain d1 d2 ta tb tc)) :=
  (pt_chain ho ho' ha hb hc hm).weak fun σ H Q q => tTest_mono (tChain_up h h') σ H Q (test_up σ H Q q)
/-! ### truth; and, or, not; if else -/
def dTru : D → (Bool → Prop) → Prop := fun x Q => match x with
  | .non => Q false
  | .bl b => Q b
  | .int i => Q (i != 0)
  | .str s => s.length ≤ SZ ∧ Q ((s.length : Int) != 0)
  | .lst xs => Q (!xs.isEmpty)
  | .tup xs => Q (!xs.isEmpty)
  | .dic ks _ => Q (!ks.isEmpty)
  | _ => False
theorem rels_empty {P : AS} {H : Hp} {ds : List D} {vs : List V} (r : Rels F.S P H ds vs) : vs.isEmpty = ds.isEmpty := by
  cases ds with
  | nil => have r : vs = [] := r; subst r; rfl
  | cons d ds => obtain ⟨v, w, e, _⟩ := r; subst e; rfl
theorem tru_of {P : AS} {ρ : Ev} {σ : St} {H : Hp} {x : D} {v : V} {Q : Bool → Prop} (r : VRb F P ρ σ H x v) (q : dTru x Q) : ∃ k, TruV F.S.K v H k ∧ Q k := by
  cases x with
  | non => rw [r.non]; exact ⟨false, rfl, q⟩
  | bl b => rw [r.bl]; exact ⟨b, rfl, q⟩
  | int i => rw [r.int]; exact ⟨_, rfl, q⟩
  | str s => rw [r.str]; exact ⟨_, ⟨sz_line q.1, rfl⟩, q.2⟩
  | lst xs =>
    obtain ⟨a, vs, rfl, h1, r1⟩ := r.lst
    exact ⟨!vs.isEmpty, .inl ⟨vs, SqL.of h1, rfl⟩, by rw [rels_empty r1]; exact q⟩
  | tup xs =>
    obtain ⟨a, vs, rfl, h1, r1⟩ := r.tup
    exact ⟨!vs.isEmpty, .inr (.inl ⟨vs, SqT.of h1, rfl⟩), by rw [rels_empty r1]; exact q⟩
  | dic ks xs =>
    obtain ⟨a, vs, rfl, h1, hl, r1⟩ := (show Rel F.S P H (.dic ks xs) v from r.rel)
    refine ⟨!(ks.zip vs).isEmpty, .inr (.inr ⟨_, h1, rfl⟩), ?_⟩
    have e : (ks.zip vs).isEmpty = ks.isEmpty := by
      cases ks with
      | nil => rfl
      | cons x ks =>
        cases vs with
        | nil => cases hl
        | cons y vs => rfl
    rw [e]; exact q
  | obj c xs => exact q.elim
  | exc c xs => exact q.elim
  | pen => exact q.elim
  | scr n => exact q.elim
def wT (ta : TD) : TDt := fun ρ Q => ta ρ fun x ρ1 => dTru x fun k => Q k ρ1
theorem dt_tru (hK : X.K = F.S.K) (ha : DB X F a ta) (he : ∀ whole, isTrue a X.env whole = (do let v ← whole; standAt a.pos; holding [v] (truthy v)) := by intro _; rfl) : DT X F a (wT ta) :=
  (pt_truth ha he).weak fun σ H Q ⟨P, ρ, Q', L, q, k⟩ => ⟨P, ρ, _, L, q, fun x v P1 ρ1 H1 g1 r1 q1 => by
    obtain ⟨b, h1, h2⟩ := tru_of r1 q1
    exact ⟨b, by rw [hK]; exact h1, k b P1 ρ1 H1 g1 h2⟩⟩
/-- tests -/
def wNot (t : TDt) : TDt := fun ρ Q => t ρ fun k ρ1 => Q (!k) ρ1
def wAnd (t u : TDt) : TDt := fun ρ Q => t ρ fun k ρ1 => dIte k (u ρ1 Q) (Q false ρ1)
def wOr (t u : TDt) : TDt := fun ρ Q => t ρ fun k ρ1 => dIte k (Q true ρ1) (u ρ1 Q)
abbrev DW (X : Cx) (F : Fr) (e : Expr) (t : TDt) : Prop := PW X e (upT F t)
variable {t u : TDt} {rest : List Expr}
theorem dt_not (h : DT X F a t) : DT X F (.UnaryOp .Not a pos) (wNot t) := (pt_not h).weak fun σ H Q ⟨P, ρ, Q', L, q, k⟩ => ⟨P, ρ, _, L, q, fun b P1 ρ1 H1 g1 q1 => k (!b) P1 ρ1 H1 g1 q1⟩
theorem dw_and1 (h : DT X F a t) : DW X F (.BoolOp .And [a] pos) t := pw_and1 h
theorem dw_or1 (h : DT X F a t) : DW X F (.BoolOp .Or [a] pos) t := pw_or1 h
theorem dw_and (h : DT X F a t) (h2 : DW X F (.BoolOp .And (b :: rest) pos) u) : DW X F (.BoolOp .And (a :: b :: rest) pos) (wAnd t u) := (pw_and h h2).weak fun σ H Q ⟨P, ρ, Q', L, q, k⟩ =>
  ⟨P, ρ, _, L, q, fun d P1 ρ1 H1 g1 q1 => by
    cases d with
    | true => exact iteT ⟨P1, ρ1, Q', g1.lk, by simpa using q1, fun e P2 ρ2 H2 g2 q2 => k e P2 ρ2 H2 (g1.trans L g2) q2⟩
    | false => exact iteF (k false P1 ρ1 H1 g1 (by simpa using q1))⟩
theorem dw_or (h : DT X F a t) (h2 : DW X F (.BoolOp .Or (b :: rest) pos) u) : DW X F (.BoolOp .Or (a :: b :: rest) pos) (wOr t u) := (pw_or h h2).weak fun σ H Q ⟨P, ρ, Q', L, q, k⟩ =>
  ⟨P, ρ, _, L, q, fun d P1 ρ1 H1 g1 q1 => by
    cases d with
    | false => exact iteF ⟨P1, ρ1, Q', g1.lk, by simpa using q1, fun e P2 ρ2 H2 g2 q2 => k e P2 ρ2 H2 (g1.trans L g2) q2⟩
    | true => exact iteT (k true P1 ρ1 H1 g1 (by simpa using q1))⟩
theorem dt_w (h : DW X F a t) : DT X F a t := h.pt
/-- the same as values -/
def wNotV (t : TD) : TD := fun ρ Q => t ρ fun x ρ1 => dTru x fun k => Q (.bl (!k)) ρ1
def wAndV (t u : TD) : TD := fun ρ Q => t ρ fun x ρ1 => dTru x fun k => dIte k (u ρ1 Q) (Q x ρ1)
def wOrV (t u : TD) : TD := fun ρ Q => t ρ fun x ρ1 => dTru x fun k => dIte k (Q x ρ1) (u ρ1 Q)
theorem de_not (hK : X.K = F.S.K) (h : DB X F a ta) : DE X F (.UnaryOp .Not a pos) (wNotV ta) := (pe_notT h).weak fun σ H Q ⟨P, ρ, Q', L, q, k⟩ => ⟨P, ρ, _, L, q, fun x v P1 ρ1 H1 g1 r1 q1 => by
    obtain ⟨b, h1, h2⟩ := tru_of r1 q1
    exact ⟨b, by rw [hK]; exact h1, k (.bl (!b)) _ P1 ρ1 H1 g1 rfl h2⟩⟩
theorem de_one {op : BoolOp} (h : DE X F a ta) : DE X F (.BoolOp op [a] pos) ta := pe_one h
theorem de_and (hK : X.K = F.S.K) (h : DE X F a ta) (h2 : DE X F (.BoolOp .And (b :: rest) pos) tb) : DE X F (.BoolOp .And (a :: b :: rest) pos) (wAndV ta tb) := (pe_andT h h2).weak fun σ H Q ⟨P, ρ, Q', L, q, k⟩ =>
  ⟨P, ρ, _, L, q, fun x v P1 ρ1 H1 g1 r1 q1 => by
    obtain ⟨d, h1, h2⟩ := tru_of (VRs.b r1) q1
    refine ⟨d, by rw [hK]; exact h1, ?_⟩
    cases d with
    | true => exact iteT ⟨P1, ρ1, Q', g1.lk, by simpa using h2, fun y w P2 ρ2 H2 g2 r2 q2 => k y w P2 ρ2 H2 (g1.trans L g2) r2 q2⟩
    | false => exact iteF (k x v P1 ρ1 H1 g1 r1 (by simpa using h2))⟩
theorem de_or (hK : X.K = F.S.K) (h : DE X F a ta) (h2 : DE X F (.BoolOp .Or (b :: rest) pos) tb) : DE X F (.BoolOp .Or (a :: b :: rest) pos) (wOrV ta tb) := (pe_orT h h2).weak fun σ H Q ⟨P, ρ, Q', L, q, k⟩ =>
  ⟨P, ρ, _, L, q, fun x v P1 ρ1 H1 g1 r1 q1 => by
    obtain ⟨d, h1, h2⟩ := tru_of (VRs.b r1) q1
    refine ⟨d, by rw [hK]; exact h1, ?_⟩
    cases d with
    | false => exact iteF ⟨P1, ρ1, Q', g1.lk, by simpa using h2, fun y w P2 ρ2 H2 g2 r2 q2 => k y w P2 ρ2 H2 (g1.trans L g2) r2 q2⟩
    | true => exact iteT (k x v P1 ρ1 H1 g1 r1 (by simpa using h2))⟩
def wIf (c : TDt) (t u : TD) : TD := fun ρ Q => c ρ fun k ρ1 => dIte k (t ρ1 Q) (u ρ1 Q)
theorem d_ifE (h : DT X F c t) (ha : PE X a (up R F ta)) (hb : PE X b (up R F tb)) : PE X (.IfExp c a b pos) (up R F (wIf t ta tb)) := (pe_ifExp h ha hb).weak fun σ H Q ⟨P, ρ, Q', L, q, k⟩ =>
  ⟨P, ρ, _, L, q, fun d P1 ρ1 H1 g1 q1 => by
    cases d with
    | true => exact iteT ⟨P1, ρ1, Q', g1.lk, by simpa using q1, fun y w P2 ρ2 H2 g2 r2 q2 => k y w P2 ρ2 H2 (g1.trans L g2) (Tr.tr L g1 r2) q2⟩
    | false => exact iteF ⟨P1, ρ1, Q', g1.lk, by simpa using q1, fun y w P2 ρ2 H2 g2 r2 q2 => k y w P2 ρ2 H2 (g1.trans L g2) (Tr.tr L g1 r2) q2⟩⟩
/-! ### names and constants -/
def wC (d : D) : TD := fun ρ Q => Q d ρ
def wVar (i : Nat) : TD := fun ρ Q => match ρ.sl[i]? with
  | some (.sh d) => Q d ρ
  | _ => False
def wBor (i : Nat) : TD := fun ρ Q => match ρ.sl[i]? with
  | some (.sh d) => Q d ρ
  | some (.ow xs) => Q (.lst xs) ρ
  | _ => False
theorem dv (i : Nat) {x : Str} (hN : X.N[i]? = some x := by rfl) (hv : Vis X.env.scope x := by first | exact Or.inl rfl | exact Or.inr (Or.inl rfl) | exact Or.inr (Or.inr rfl)) (hd : (x == ("__debug__" : Str)) = false := by decide)
    (hcd : (x == ("__classdict__" : Str)) = false := by decide) : DE X F (.Name x pos) (wVar i) := (pe_var hN hv hd hcd).weak fun σ H Q ⟨P, ρ, Q', L, q, k⟩ => by
  unfold wVar at q
  split at q
  · rename_i d e
    obtain ⟨v, h1, h2⟩ := L.val i _ e
    exact ⟨v, h1, k d v P ρ H L.gr h2 q⟩
  · exact q.elim
theorem dvb (i : Nat) {x : Str} (hN : X.N[i]? = some x := by rfl) (hv : Vis X.env.scope x := by first | exact Or.inl rfl | exact Or.inr (Or.inl rfl) | exact Or.inr (Or.inr rfl)) (hd : (x == ("__debug__" : Str)) = false := by decide)
    (hcd : (x == ("__classdict__" : Str)) = false := by decide) : DB X F (.Name x pos) (wBor i) := (pe_var hN hv hd hcd).weak fun σ H Q ⟨P, ρ, Q', L, q, k⟩ => by
  unfold wBor at q
  split at q
  · rename_i d e
    obtain ⟨v, h1, h2⟩ := L.val i _ e
    exact ⟨v, h1, k d v P ρ H L.gr (.inl h2) q⟩
  · rename_i xs e
    obtain ⟨a, vs, h1, h2, h3, h4, h5⟩ := L.val i _ e
    exact ⟨.ref a, h1, k (.lst xs) (.ref a) P ρ H L.gr (.inr ⟨xs, a, vs, rfl, rfl, h2, h4, h5⟩) q⟩
  · exact q.elim
theorem tC_up {d : D} {v : V} (h : ∀ P H, Rel F.S P H d v) : ∀ σ H Q, up Rs F (wC d) σ H Q → tC v σ H Q := fun σ H Q ⟨P, ρ, Q', L, q, k⟩ => k d v P ρ H L.gr (h _ _) q
theorem de_int {i : Int} {j} : DE X F (.Constant (.int i) j pos) (wC (.int i)) := pe_int.weak (tC_up fun _ _ => rfl)
theorem de_bl {i : Bool} {j} : DE X F (.Constant (.bool i) j pos) (wC (.bl i)) := pe_bl.weak (tC_up fun _ _ => rfl)
theorem de_non {j} : DE X F (.Constant .none j pos) (wC .non) := pe_non.weak (tC_up fun _ _ => rfl)
theorem de_str {i : Str} {j} : DE X F (.Constant (.str i) j pos) (wC (.str i)) := pe_str.weak (tC_up fun _ _ => rfl)
/-- a text or an int that the module holds -/
theorem de_gstr {x i : Str} {tk : Tok} (hm : X.mg x = some (.str i tk)) (hg : Gl X x := by rfl) (hd : (x == ("__debug__" : Str)) = false := by decide) : DE X F (.Name x pos) (wC (.str i)) := (pe_glob (v := .str i) hg hm ⟨_, rfl⟩ hd).weak (tC_up fun _ _ => rfl)
theorem de_gint {x : Str} {i : Int} {tk : Tok} (hm : X.mg x = some (.int i tk)) (hg : Gl X x := by rfl) (hd : (x == ("__debug__" : Str)) = false := by decide) : DE X F (.Name x pos) (wC (.int i)) := (pe_glob (v := .int i) hg hm ⟨_, rfl⟩ hd).weak (tC_up fun _ _ => rfl)
/-! ### several in a row; displays -/
def wsNil : TDs := fun ρ Q => Q [] ρ
def wsCons (t : TD) (u : TDs) : TDs := fun ρ Q => t ρ fun x ρ1 => u ρ1 fun xs ρ2 => Q (x :: xs) ρ2
abbrev DAs (X : Cx) (F : Fr) (es : List Expr) (t : TDs) : Prop := PA X es (upA VRs F t)
abbrev DAb (X : Cx) (F : Fr) (es : List Expr) (t : TDs) : Prop := PA X es (upA VRb F t)
theorem rsR_s {P : AS} {ρ : Ev} {σ : St} {H : Hp} : ∀ {ds : List D} {vs : List V}, RsR VRs F P ρ σ H ds vs → Rels F.S P (hide H (Off F P ρ σ)) ds vs
  | [], _, r => r
  | d :: ds, _, ⟨v, r, e, q, t⟩ => ⟨v, r, e, q, rsR_s t⟩
theorem rsR_b {P : AS} {ρ : Ev} {σ : St} {H : Hp} : ∀ {ds : List D} {vs : List V}, RsR VRs F P ρ σ H ds vs → RsR VRb F P ρ σ H ds vs
  | [], _, r => r
  | d :: ds, _, ⟨v, r, e, q, t⟩ => ⟨v, r, e, .inl q, rsR_b t⟩
theorem da_nil {R : RE} : PA X [] (upA R F wsNil) := pa_nil.weak fun σ H Q ⟨P, ρ, Q', L, q, k⟩ => k [] [] P ρ H L.gr rfl q
theorem da_cons {es : List Expr} {us : TDs} (h : DE X F a ta) (h2 : DAs X F es us) (hs : starEach (a :: es) X.env = (false, eval a X.env) :: starEach es X.env := by rfl) : DAs X F (a :: es) (wsCons ta us) :=
  (pa_cons h h2 hs).weak fun σ H Q ⟨P, ρ, Q', L, q, k⟩ => ⟨P, ρ, _, L, q, fun x v P1 ρ1 H1 g1 r1 q1 => ⟨P1, ρ1, _, g1.lk, q1, fun xs vs P2 ρ2 H2 g2 r2 q2 =>
    k (x :: xs) (v :: vs) P2 ρ2 H2 (g1.trans L g2) ⟨v, vs, rfl, VRs.gr g1.lk r1 g2, r2⟩ q2⟩⟩
theorem db_cons {es : List Expr} {us : TDs} (h : DB X F a ta) (h2 : DAb X F es us) (hs : starEach (a :: es) X.env = (false, eval a X.env) :: starEach es X.env := by rfl) : DAb X F (a :: es) (wsCons ta us) :=
  (pa_cons h h2 hs).weak fun σ H Q ⟨P, ρ, Q', L, q, k⟩ => ⟨P, ρ, _, L, q, fun x v P1 ρ1 H1 g1 r1 q1 => ⟨P1, ρ1, _, g1.lk, q1, fun xs vs P2 ρ2 H2 g2 r2 q2 =>
    k (x :: xs) (v :: vs) P2 ρ2 H2 (g1.trans L g2) ⟨v, vs, rfl, VRb.gr g1.lk r1 g2, r2⟩ q2⟩⟩
def wLst (t : TDs) : TD := fun ρ Q => t ρ fun xs ρ1 => xs.length ≤ SZ ∧ Q (.lst xs) ρ1
def wTup (t : TDs) : TD := fun ρ Q => t ρ fun xs ρ1 => xs.length ≤ SZ ∧ Q (.tup xs) ρ1
theorem df_lst {es : List Expr} {us : TDs} (h : DAs X F es us) : DF X F (.List es pos) (wLst us) := (pe_lst h).weak fun σ H Q ⟨P, ρ, Q', L, q, k⟩ => ⟨P, ρ, _, L, q, fun xs vs P1 ρ1 H1 g1 r1 ⟨q1, q2⟩ =>
  ⟨rels_len (rsR_s r1) (sz_line q1), fun p hp => k _ _ P1 ρ1 _ (g1.trans L (g1.lk.new hp)) (Tr.tr L g1 (fresh_lst g1.lk hp (rsR_s r1))) q2⟩⟩
theorem de_lst {es : List Expr} {us : TDs} (h : DAs X F es us) : DE X F (.List es pos) (wLst us) := (df_lst h).s
theorem de_tup {es : List Expr} {us : TDs} {z} (h : DAs X F es us) : DE X F (.Tuple es z pos) (wTup us) := (pe_tup h).weak fun σ H Q ⟨P, ρ, Q', L, q, k⟩ => ⟨P, ρ, _, L, q, fun xs vs P1 ρ1 H1 g1 r1 ⟨q1, q2⟩ =>
  ⟨rels_len (rsR_s r1) (sz_line q1), fun p hp => k _ _ P1 ρ1 _ (g1.trans L (g1.lk.new hp)) (new_tup g1.lk hp (rsR_s r1)) q2⟩⟩
end
end DL
namespace DL
open PySem PySem.Spec PyProof.Rows L2
section
variable {X : Cx} {F : Fr} {R : RR} [Tr R] {ta tb tc : TD} {a b c : Expr} {pos : Pos}
/-! ### an item -/
theorem atI_rel {P : AS} {H : Hp} {ds : List D} {vs : List V} (r : Rels F.S P H ds vs) {i : Int} {d : D} (h : atI ds i = some d) : ∃ v, atI vs i = some v ∧ Rel F.S P H d v := by
  unfold atI at h ⊢
  rw [r.length]
  cases e : ixN ds.length i with
  | none => rw [e] at h; cases h
  | some j =>
    rw [e] at h
    exact r.get h
/-- the item at i -/
@[irreducible] def dAt {α : Type} (xs : List α) (i : Int) (Q : α → Prop) : Prop := ∃ d, atI xs i = some d ∧ Q d
theorem dAt_i {α : Type} {xs : List α} {i : Int} {d : α} {Q : α → Prop} (h : atI xs i = some d) (q : Q d) : dAt xs i Q := by unfold dAt; exact ⟨d, h, q⟩
theorem dAt_inv {α : Type} {xs : List α} {i : Int} {Q : α → Prop} (h : dAt xs i Q) : ∃ d, atI xs i = some d ∧ Q d := by unfold dAt at h; exact h
theorem atI_nat {α : Type} {xs : List α} {i : Nat} {d : α} (h : xs[i]? = some d) : atI xs (i : Int) = some d := by
  obtain ⟨hl, he⟩ := List.getElem?_eq_some_iff.mp h
  unfold atI ixN
  simp only [Int.natCast_nonneg, if_true, Int.toNat_natCast]
  have : ((i : Int) < (xs.length : Int)) := by omega
  simp [hl, he]
theorem dAt_nat {α : Type} {xs : List α} {i : Nat} {d : α} {Q : α → Prop} (h : xs[i]? = some d) (q : Q d) : dAt xs (i : Int) Q := dAt_i (atI_nat h) q
theorem dAt_0 {α : Type} {xs : List α} {x : α} {Q : α → Prop} (q : Q x) : dAt (x :: xs) 0 Q := dAt_nat (i := 0) rfl q
theorem dAt_1 {α : Type} {xs : List α} {x y : α} {Q : α → Prop} (q : Q y) : dAt (x :: y :: xs) 1 Q := dAt_nat (i := 1) rfl q
theorem dAt_2 {α : Type} {xs : List α} {x y z : α} {Q : α → Prop} (q : Q z) : dAt (x :: y :: z :: xs) 2 Q := dAt_nat (i := 2) rfl q
theorem dAt_3 {α : Type} {xs : List α} {x y z u : α} {Q : α → Prop} (q : Q u) : dAt (x :: y :: z :: u :: xs) 3 Q := dAt_nat (i := 3) rfl q
def dIx : W2 := fun x y Q => match x, y with
  | .lst xs, .int i => dAt xs i Q
  | .tup xs, .int i => dAt xs i Q
  | .str s, .int i => s.length ≤ SZ ∧ dAt s.cps.toList i fun c => Q (.str ⟨#[c]⟩)
  | _, _ => False
theorem rels_s {P : AS} {ρ : Ev} {σ : St} {H : Hp} {d : D} {v : V} (r : Rel F.S P (hide H (Off F P ρ σ)) d v) : VRs F P ρ σ H d v := r
theorem o_ix : Op2 Rs F (rIx F.S.K) dIx := .flat fun P ρ σ H x y v w Q Q' L rx ry q k => by
  cases x <;> cases y <;> try exact False.elim q
  case lst.int xs i =>
    obtain ⟨d, e, q⟩ := dAt_inv q
    obtain ⟨a, vs, rfl, h1, r1⟩ := rx.lst
    obtain ⟨u, e2, r2⟩ := atI_rel r1 e
    exact .inl ⟨a, vs, i, u, rfl, ry.int, SqL.of h1, e2, k d u r2 q⟩
  case tup.int xs i =>
    obtain ⟨d, e, q⟩ := dAt_inv q
    obtain ⟨a, vs, rfl, h1, r1⟩ := rx.tup
    obtain ⟨u, e2, r2⟩ := atI_rel r1 e
    exact .inr (.inl ⟨a, vs, i, u, rfl, ry.int, SqT.of h1, e2, k d u r2 q⟩)
  case str.int s i =>
    obtain ⟨z, q⟩ := q
    obtain ⟨d, e, q⟩ := dAt_inv q
    exact .inr (.inr ⟨s, i, d, rx.str, ry.int, sz_line z, e, k (.str ⟨#[d]⟩) _ rfl q⟩)
theorem de_ix (hK : X.K = F.S.K) (ha : DB X F a ta) (hb : DB X F b tb) (hs : PlainIx b := by exact fun _ _ => rfl) : DE X F (.Subscript a b pos) (w2 dIx ta tb) := (pe_ix (r := rIx F.S.K) (by rw [← hK]; exact ix_seq) ha hb hs).weak (tOp_up o_ix)
/-! ### slices -/
abbrev TDo := Ev → (Option Int → Ev → Prop) → Prop
def upO (F : Fr) (t : TDo) : TO := fun σ H Q => ∃ P ρ Q', Lk F P ρ σ H ∧ t ρ Q' ∧ ∀ o P' ρ' H', Gr F P ρ σ H P' ρ' H' → Q' o ρ' → Q o H'
abbrev DO (X : Cx) (F : Fr) (e : Option Expr) (t : TDo) : Prop := PO X e (upO F t)
theorem _root_.L2.PO.weak {X : Cx} {e : Option Expr} {t t' : TO} (h : PO X e t) (k : ∀ σ H Q, t' σ H Q → t σ H Q) : PO X e t' := ⟨fun pins s σ H Q I q => h.run pins s σ H Q I (k σ H Q q)⟩
def wNoP : TDo := fun ρ Q => Q none ρ
def wPart (t : TD) : TDo := fun ρ Q => t ρ fun x ρ1 => asI x fun i => Q (some i) ρ1
theorem do_none : DO X F none wNoP := po_none.weak fun σ H Q ⟨P, ρ, Q', L, q, k⟩ => k none P ρ H L.gr q
theorem do_some (h : DE X F a ta) : DO X F (some a) (wPart ta) := (po_some h).weak fun σ H Q ⟨P, ρ, Q', L, q, k⟩ => ⟨P, ρ, _, L, q, fun x v P1 ρ1 H1 g1 r1 q0 => by
  obtain ⟨i, e, q1⟩ := asI_inv q0
  subst e
  exact ⟨i, r1, k (some i) P1 ρ1 H1 g1 q1⟩⟩
def cutD {α : Type} (xs : List α) (lo hi : Option Int) : List α := (xs.drop (HT.sIx xs.length 0 lo)).take (HT.sIx xs.length xs.length hi - HT.sIx xs.length 0 lo)
theorem rels_cut {P : AS} {H : Hp} {ds : List D} {vs : List V} (r : Rels F.S P H ds vs) (lo hi : Option Int) : Rels F.S P H (cutD ds lo hi) (cutV vs lo hi) := by
  unfold cutD cutV
  rw [r.length]
  exact (r.drop _).take _
def dSl : D → Option Int → Option Int → (D → Prop) → Prop := fun x lo hi Q => match x with
  | .lst xs => Q (.lst (cutD xs lo hi))
  | .tup xs => Q (.tup (cutD xs lo hi))
  | .str s => s.length ≤ SZ ∧ Q (.str (cutS s lo hi))
  | .scr ns => Q (.lst ((cutD ns lo hi).map D.int))
  | _ => False
theorem cut_map {α β : Type} (f : α → β) (xs : List α) (lo hi : Option Int) : cutD (xs.map f) lo hi = (cutD xs lo hi).map f := by
  unfold cutD
  rw [List.length_map, List.map_take, List.map_drop]
def wSl (ta : TD) (tl th : TDo) : TD := fun ρ Q => ta ρ fun x ρ1 => tl ρ1 fun l ρ2 => th ρ2 fun u ρ3 => dSl x l u fun d => Q d ρ3
theorem de_slice (hK : X.K = F.S.K) {lo hi : Option Expr} {tl th : TDo} {p2 : Pos} (ha : DB X F a ta) (hl : DO X F lo tl) (hh : DO X F hi th) : DE X F (.Subscript a (.Slice lo hi none p2) pos) (wSl ta tl th) :=
  (pe_slice ((sl_list.or sl_tupA).or sl_str) ha hl hh).weak fun σ H Q ⟨P, ρ, Q', L, q, k⟩ => ⟨P, ρ, _, L, q, fun x v P1 ρ1 H1 g1 r1 q1 => ⟨P1, ρ1, _, g1.lk, q1, fun l P2 ρ2 H2 g2 q2 => ⟨P2, ρ2, _, g2.lk, q2, fun u P3 ρ3 H3 g3 q3 => by
    have g := g1.trans L (g2.trans g1.lk g3)
    have rx := (r1.gr g1.lk g2).gr g2.lk g3
    rw [hK]
    cases x <;> try exact False.elim q3
    case lst xs =>
      obtain ⟨a, vs, rfl, h1, r2⟩ := rx.lst
      exact .inl (.inl ⟨a, vs, rfl, SqL.of h1, fun p hp => k _ _ P3 ρ3 _ (g.trans L (g3.lk.new hp)) (new_lst g3.lk hp (rels_cut r2 l u)) q3⟩)
    case tup xs =>
      obtain ⟨a, vs, rfl, h1, r2⟩ := rx.tup
      refine .inl (.inr ⟨a, vs, rfl, SqT.of h1, fun e => ?_, fun _ p hp => k _ _ P3 ρ3 _ (g.trans L (g3.lk.new hp)) (new_tup g3.lk hp (rels_cut r2 l u)) q3⟩)
      have e2 : cutD xs l u = xs := by
        unfold cutD
        rw [r2.length] at e
        rw [e.1, e.2]
        simp
      have q4 : Q' (.tup (cutD xs l u)) ρ3 := q3
      rw [e2] at q4
      exact k _ _ P3 ρ3 H3 g (rx.s fun _ z => nomatch z) q4
    case str s => exact .inr ⟨s, rx.str, sz_line q3.1, k (.str (cutS s l u)) _ P3 ρ3 H3 g rfl q3.2⟩
    case scr ns =>
      obtain ⟨a, rfl, h1⟩ := (show Rel F.S P3 H3 (.scr ns) _ from rx.rel)
      refine .inl (.inl ⟨a, _, rfl, h1, fun p hp => k _ _ P3 ρ3 _ (g.trans L (g3.lk.new hp)) (new_lst g3.lk hp ?_) q3⟩)
      have e : cutV (ns.map V.int) l u = (cutD ns l u).map V.int := cut_map V.int ns l u
      rw [e]
      exact ints_rels _⟩⟩⟩
/-! ### calls of built-in functions and classes -/
abbrev WN := List D → (D → Prop) → Prop
def OpN (R : RR) (F : Fr) (r : List V → Hp → VK → Prop) (dr : WN) : Prop := ∀ (P : AS) (ρ : Ev) (σ : St) (H : Hp) (xs : List D) (vs : List V) (Q : VK) (Q' : D → Prop), Lk F P ρ σ H → RsR VRb F P ρ σ H xs vs → dr xs Q' →
  (∀ d u H', Gr F P ρ σ H P ρ H' → R F P ρ H σ P ρ H' d u → Q' d → Q u H') → r vs H Q
def wN (dr : WN) (t : TDs) : TD := fun ρ Q => t ρ fun xs ρ1 => dr xs fun d => Q d ρ1
theorem tCB_up {r : List V → Hp → VK → Prop} {dr : WN} {t : TDs} (h : OpN R F r dr) : ∀ σ H Q, up R F (wN dr t) σ H Q → tCB r (upA VRb F t) σ H Q := fun σ H Q ⟨P, ρ, Q', L, q, k⟩ =>
  ⟨P, ρ, _, L, q, fun xs vs P1 ρ1 H1 g1 r1 q1 => h P1 ρ1 σ H1 xs vs Q _ g1.lk r1 q1 fun d u H3 g3 r3 q3 => k d u P1 ρ1 H3 (g1.trans L g3) (Tr.tr L g1 r3) q3⟩
theorem d_callB {id : String} {r : List V → Hp → VK → Prop} {dr : WN} {t : TDs} {x : Str} {p : Pos} {es : List Expr} (hc : CallR X (.builtin id) r) (h : OpN R F r dr) (hm : X.mg x = none) (ha : DAb X F (a :: es) t)
    (hg : Gl X x := by rfl) (hv : bootBuiltins x = some (.builtin id) := by decide +kernel) (hn : x ≠ "__name__" := by decide) (hdb : (x == ("__debug__" : Str)) = false := by decide)
    (he : starEach (a :: es) X.env = (false, eval a X.env) :: starEach es X.env := by rfl) (hpl : (backTo pos (starEach es X.env)).any (·.1) = false := by rfl) : PE X (.Call (.Name x p) (a :: es) [] pos) (up R F (wN dr t)) :=
  (pe_callB hc hg hm hv ha hn hdb he hpl).weak (tCB_up h)
theorem d_callTy {T : String} {r : List V → Hp → VK → Prop} {dr : WN} {t : TDs} {x : Str} {p : Pos} {es : List Expr} (hc : CallR X (.type T) r) (h : OpN R F r dr) (hm : X.mg x = none) (ha : DAb X F (a :: es) t)
    (hg : Gl X x := by rfl) (hv : bootBuiltins x = some (.type T) := by decide +kernel) (hn : x ≠ "__name__" := by decide) (hdb : (x == ("__debug__" : Str)) = false := by decide)
    (he : starEach (a :: es) X.env = (false, eval a X.env) :: starEach es X.env := by rfl) (hpl : (backTo pos (starEach es X.env)).any (·.1) = false := by rfl) : PE X (.Call (.Name x p) (a :: es) [] pos) (up R F (wN dr t)) :=
  (pe_callTy hc hg hm hv ha hn hdb he hpl).weak (tCB_up h)
theorem rs1 {R : RE} {P : AS} {ρ : Ev} {σ : St} {H : Hp} {d : D} {vs : List V} (r : RsR R F P ρ σ H [d] vs) : ∃ v, vs = [v] ∧ R F P ρ σ H d v := by
  obtain ⟨v, w, e, q, t⟩ := r
  have t : w = [] := t
  subst t
  exact ⟨v, e, q⟩
theorem rs2 {R : RE} {P : AS} {ρ : Ev} {σ : St} {H : Hp} {d e : D} {vs : List V} (r : RsR R F P ρ σ H [d, e] vs) : ∃ v w, vs = [v, w] ∧ R F P ρ σ H d v ∧ R F P ρ σ H e w := by
  obtain ⟨v, u, e1, q, t⟩ := r
  obtain ⟨w, rfl, q2⟩ := rs1 t
  exact ⟨v, w, e1, q, q2⟩
/-- len -/
def d1 (dr : W1) : WN := fun xs Q => match xs with
  | [x] => dr x Q
  | _ => False
theorem d1_inv {dr : W1} {xs : List D} {Q : D → Prop} (h : d1 dr xs Q) : ∃ x, xs = [x] ∧ dr x Q := by
  match xs, h with
  | [x], h => exact ⟨x, rfl, h⟩
def dLen : W1 := fun x Q => match x with
  | .lst xs => Q (.int xs.length)
  | .tup xs => Q (.int xs.length)
  | .str s => s.length ≤ SZ ∧ Q (.int s.length)
  | .scr ns => Q (.int ns.length)
  | _ => False
def rLenT (K : PySem.W.Frag) : List V → Hp → VK → Prop := fun xs H Q => (∃ p ys, xs = [.ref p] ∧ (SqL K H p ys ∨ SqT K H p ys) ∧ Q (.int ys.length) H) ∨ (∃ z, xs = [.str z] ∧ z.length ≤ sizeLine ∧ Q (.int z.length) H)
theorem call_lenT : CallR X (.builtin "len") (rLenT X.K) := call_len_seq.or call_len_str
theorem o_len : OpN Rs F (rLenT F.S.K) (d1 dLen) := fun P ρ σ H xs vs Q Q' L r q k => by
  replace q := d1_inv q
  obtain ⟨x, rfl, q⟩ := q
  replace r := rs1 r
  obtain ⟨v, rfl, rx⟩ := r
  cases x <;> try exact False.elim q
  case lst xs =>
    obtain ⟨a, vs, rfl, h1, r1⟩ := rx.lst
    exact .inl ⟨a, vs, rfl, .inl (SqL.of h1), by rw [r1.length]; exact k (.int xs.length) _ H L.gr rfl q⟩
  case tup xs =>
    obtain ⟨a, vs, rfl, h1, r1⟩ := rx.tup
    exact .inl ⟨a, vs, rfl, .inr (SqT.of h1), by rw [r1.length]; exact k (.int xs.length) _ H L.gr rfl q⟩
  case str s => exact .inr ⟨s, by rw [rx.str], sz_line q.1, k (.int s.length) _ H L.gr rfl q.2⟩
  case scr ns =>
    obtain ⟨a, rfl, h1⟩ := (show Rel F.S P H (.scr ns) v from rx.rel)
    exact .inl ⟨a, _, rfl, .inl h1, by rw [List.length_map]; exact k (.int ns.length) _ H L.gr rfl q⟩
/-- int(i), int(truth) -/
def dInt : W1 := fun x Q => match x with
  | .int i => Q (.int i)
  | .bl b => Q (.int (if b then 1 else 0))
  | _ => False
theorem o_int : OpN Rs F (fun xs H Q => (∃ i, xs = [V.int i] ∧ Q (.int i) H) ∨ ∃ k, xs = [V.bl k] ∧ Q (.int (if k then 1 else 0)) H) (d1 dInt) := fun P ρ σ H xs vs Q Q' L r q k => by
  replace q := d1_inv q
  obtain ⟨x, rfl, q⟩ := q
  replace r := rs1 r
  obtain ⟨v, rfl, rx⟩ := r
  cases x <;> try exact False.elim q
  case int i => exact .inl ⟨i, by rw [rx.int], k (.int i) _ H L.gr rfl q⟩
  case bl b => exact .inr ⟨b, by rw [rx.bl], k (.int _) _ H L.gr rfl q⟩
def dAbs : W1 := fun x Q => asI x fun i => Q (.int (if i < 0 then -i else i))
theorem o_abs : OpN Rs F (fun xs H Q => ∃ i, xs = [V.int i] ∧ Q (.int (if i < 0 then -i else i)) H) (d1 dAbs) := fun P ρ σ H xs vs Q Q' L r q k => by
  replace q := d1_inv q
  obtain ⟨x, rfl, q0⟩ := q
  obtain ⟨i, rfl, q⟩ := asI_inv q0
  replace r := rs1 r
  obtain ⟨v, rfl, rx⟩ := r
  exact ⟨i, by rw [rx.int], k (.int _) _ H L.gr rfl q⟩
/-- str(i), str(text) -/
def dStr : W1 := fun x Q => match x with
  | .int i => i.natAbs.log2 < 1920 ∧ Q (.str (toString i))
  | .str s => Q (.str s)
  | _ => False
def rStrT : List V → Hp → VK → Prop := fun xs H Q => (∃ i, xs = [.int i] ∧ i.natAbs.log2 < 1920 ∧ Q (.str (toString i)) H) ∨ (∃ a, xs = [.str a] ∧ Q (.str a) H)
theorem call_strT : CallR X (.type "str") rStrT := call_str_int.or SkE.call_str_str
theorem o_str : OpN Rs F rStrT (d1 dStr) := fun P ρ σ H xs vs Q Q' L r q k => by
  replace q := d1_inv q
  obtain ⟨x, rfl, q⟩ := q
  replace r := rs1 r
  obtain ⟨v, rfl, rx⟩ := r
  cases x <;> try exact False.elim q
  case int i => exact .inl ⟨i, by rw [rx.int], q.1, k (.str _) _ H L.gr rfl q.2⟩
  case str s => exact .inr ⟨s, by rw [rx.str], k (.str _) _ H L.gr rfl q⟩
/-- list(x), tuple(x) -/
def dList : W1 := fun x Q => match x with
  | .lst xs => Q (.lst xs)
  | .tup xs => Q (.lst xs)
  | _ => False
theorem o_list : OpN Rf F (fun xs H Q => ∃ p ys, xs = [.ref p] ∧ (SqL F.S.K H p ys ∨ SqT F.S.K H p ys) ∧ ∀ l, H l = none → Q (.ref l) (upd H l (.lst ys))) (d1 dList) := fun P ρ σ H xs vs Q Q' L r q k => by
  replace q := d1_inv q
  obtain ⟨x, rfl, q⟩ := q
  replace r := rs1 r
  obtain ⟨v, rfl, rx⟩ := r
  cases x <;> try exact False.elim q
  case lst xs =>
    obtain ⟨a, vs, rfl, h1, r1⟩ := rx.lst
    exact ⟨a, vs, rfl, .inl (SqL.of h1), fun p hp => k _ _ _ (L.new hp) (fresh_lst L hp r1) q⟩
  case tup xs =>
    obtain ⟨a, vs, rfl, h1, r1⟩ := rx.tup
    exact ⟨a, vs, rfl, .inr (SqT.of h1), fun p hp => k _ _ _ (L.new hp) (fresh_lst L hp r1) q⟩
theorem OpN.s {r : List V → Hp → VK → Prop} {dr : WN} (h : OpN Rf F r dr) : OpN Rs F r dr := fun P ρ σ H xs vs Q Q' L rx q k => h P ρ σ H xs vs Q Q' L rx q fun d u H' g r1 q1 => k d u H' g (Rf.s r1) q1
def dTuple : W1 := fun x Q => match x with
  | .lst xs => Q (.tup xs)
  | .tup xs => Q (.tup xs)
  | _ => False
theorem o_tuple : OpN Rs F (fun xs H Q => ∃ p ys, xs = [.ref p] ∧ ((SqL F.S.K H p ys ∧ ∀ l, H l = none → Q (.ref l) (upd H l (.tup ys))) ∨ (SqT F.S.K H p ys ∧ Q (.ref p) H))) (d1 dTuple) := fun P ρ σ H xs vs Q Q' L r q k => by
  replace q := d1_inv q
  obtain ⟨x, rfl, q⟩ := q
  replace r := rs1 r
  obtain ⟨v, rfl, rx⟩ := r
  cases x <;> try exact False.elim q
  case lst xs =>
    obtain ⟨a, vs, rfl, h1, r1⟩ := rx.lst
    exact ⟨a, vs, rfl, .inl ⟨SqL.of h1, fun p hp => k _ _ _ (L.new hp) (new_tup L hp r1) q⟩⟩
  case tup xs =>
    obtain ⟨a, vs, rfl, h1, r1⟩ := rx.tup
    exact ⟨a, vs, rfl, .inr ⟨SqT.of h1, k _ _ H L.gr (rx.s fun _ z => nomatch z) q⟩⟩
/-- any, all of truths -/
def D.bls : List D → Option (List Bool)
  | [] => some []
  | .bl b :: r => (D.bls r).map (b :: ·)
  | _ :: _ => none
theorem bls_map (bs : List Bool) : D.bls (bs.map D.bl) = some bs := by
  induction bs with
  | nil => rfl
  | cons b bs ih => simp [D.bls, ih]
theorem bls_inv : ∀ {xs : List D} {bs : List Bool}, D.bls xs = some bs → xs = bs.map D.bl
  | [], _, h => by simp [D.bls] at h; subst h; rfl
  | x :: xs, bs, h => by
    cases x <;> simp [D.bls] at h
    obtain ⟨r, h1, h2⟩ := h
    subst h2
    rw [bls_inv h1]; rfl
def dAny : W1 := fun x Q => ∃ xs bs, x = .lst xs ∧ D.bls xs = some bs ∧ Q (.bl (bs.any id))
def dAll : W1 := fun x Q => ∃ xs bs, x = .lst xs ∧ D.bls xs = some bs ∧ Q (.bl (bs.all id))
theorem o_any : OpN Rs F (rAny F.S.K) (d1 dAny) := fun P ρ σ H xs vs Q Q' L r q k => by
  replace q := d1_inv q
  obtain ⟨x, rfl, ys, bs, rfl, e, q⟩ := q
  replace r := rs1 r
  obtain ⟨v, rfl, rx⟩ := r
  have e' := bls_inv e; subst e'
  obtain ⟨a, ws, rfl, h1, r1⟩ := rx.lst
  have e2 := rels_bls r1; subst e2
  exact ⟨a, bs, rfl, SqL.of h1, k (.bl _) _ H L.gr rfl q⟩
theorem o_all : OpN Rs F (rAll F.S.K) (d1 dAll) := fun P ρ σ H xs vs Q Q' L r q k => by
  replace q := d1_inv q
  obtain ⟨x, rfl, ys, bs, rfl, e, q⟩ := q
  replace r := rs1 r
  obtain ⟨v, rfl, rx⟩ := r
  have e' := bls_inv e; subst e'
  obtain ⟨a, ws, rfl, h1, r1⟩ := rx.lst
  have e2 := rels_bls r1; subst e2
  exact ⟨a, bs, rfl, SqL.of h1, k (.bl _) _ H L.gr rfl q⟩
/-! ### isinstance -/
/-- the built-in class of a value -/
def tyN : D → Option String
  | .non => some "NoneType"
  | .bl _ => some "bool"
  | .int _ => some "int"
  | .str _ => some "str"
  | .lst _ => some "list"
  | .tup _ => some "tuple"
  | .dic _ _ => some "dict"
  | .pen => some "list"
  | .scr _ => some "list"
  | _ => none
/-- isinstance of a value of a built-in class -/
def isD (n : String) : D → Bool
  | .bl _ => n == "bool" || n == "int"
  | d => tyN d == some n
theorem rel_ty {P : AS} {ρ : Ev} {σ : St} {H : Hp} (L : Lk F P ρ σ H) {d : D} {v : V} {t : String} (r : Rel F.S P H d v) (h : tyN d = some t) (hs : ∀ ns, d ≠ .scr ns) : TyX F.S.K H v (.type t) := by
  cases d with
  | non => have r : v = _ := r; subst r; cases h; exact .base .non
  | bl b => have r : v = _ := r; subst r; cases h; exact .base (.bl b)
  | int b => have r : v = _ := r; subst r; cases h; exact .base (.int b)
  | str b => have r : v = _ := r; subst r; cases h; exact .base (.str b)
  | lst xs => obtain ⟨a, vs, rfl, e, _⟩ := r; cases h; exact .base (.lst e)
  | tup xs => obtain ⟨a, vs, rfl, e, _⟩ := r; cases h; exact .base (.tup e)
  | dic ks xs => obtain ⟨a, vs, rfl, e, _⟩ := r; cases h; exact .base (.dK e)
  | obj c xs => cases h
  | exc c xs => cases h
  | pen =>
    obtain ⟨a, rfl, e⟩ := r
    cases h
    obtain ⟨c, cs, k, q, h1, _⟩ := L.pn a e
    exact .base (.lst h1)
  | scr n => exact absurd rfl (hs n)
inductive Ty | bl | int | str | lst | tup | dic | non
def Ty.s : Ty → String
  | .bl => "bool"
  | .int => "int"
  | .str => "str"
  | .lst => "list"
  | .tup => "tuple"
  | .dic => "dict"
  | .non => "NoneType"
/-- is below -/
def Ty.e : Ty → Ty → Bool
  | .bl, .bl => true
  | .bl, .int => true
  | .int, .int => true
  | .str, .str => true
  | .lst, .lst => true
  | .tup, .tup => true
  | .dic, .dic => true
  | .non, .non => true
  | _, _ => false
theorem Ty.kit (a b : Ty) (h : b ≠ .non) : kitB a.s b.s = some (a.e b) := by
  cases a <;> cases b <;> first | exact absurd rfl h | decide +kernel
def asTy (x : D) (Q : Ty → Prop) : Prop := match x with
  | .non => Q .non
  | .bl _ => Q .bl
  | .int _ => Q .int
  | .str _ => Q .str
  | .lst _ => Q .lst
  | .tup _ => Q .tup
  | .dic _ _ => Q .dic
  | .pen => Q .lst
  | _ => False
theorem asTy_inv {x : D} {Q : Ty → Prop} (h : asTy x Q) : ∃ t, tyN x = some t.s ∧ (∀ ns, x ≠ .scr ns) ∧ Q t := by
  cases x with
  | non => exact ⟨.non, rfl, fun _ z => (nomatch z), h⟩
  | bl b => exact ⟨.bl, rfl, fun _ z => (nomatch z), h⟩
  | int b => exact ⟨.int, rfl, fun _ z => (nomatch z), h⟩
  | str b => exact ⟨.str, rfl, fun _ z => (nomatch z), h⟩
  | lst b => exact ⟨.lst, rfl, fun _ z => (nomatch z), h⟩
  | tup b => exact ⟨.tup, rfl, fun _ z => (nomatch z), h⟩
  | dic k b => exact ⟨.dic, rfl, fun _ z => (nomatch z), h⟩
  | pen => exact ⟨.lst, rfl, fun _ z => (nomatch z), h⟩
  | obj c b => exact False.elim h
  | exc c b => exact False.elim h
  | scr b => exact False.elim h
def dIsi (n : Ty) : D → (D → Prop) → Prop := fun x Q => asTy x fun t => Q (.bl (t.e n))
def wIsi (n : Ty) (t : TD) : TD := w1 (dIsi n) t
theorem de_isi (hK : X.K = F.S.K) (T : Ty) {xT : Str} {p p2 : Pos} (ha : DB X F a ta) (hi : X.mg "isinstance" = none) (hT : X.mg xT = none) (hg : Gl X "isinstance" := by rfl) (hgT : Gl X xT := by rfl) (hv : bootBuiltins xT = some (.type T.s) := by decide +kernel)
    (hnn : T ≠ .non := by intro z; cases z) (hvi : bootBuiltins "isinstance" = some (.builtin "isinstance") := by decide +kernel) (hn : xT ≠ "__name__" := by decide) (hdb : (xT == ("__debug__" : Str)) = false := by decide)
    (he : starEach (a :: [.Name xT p2]) X.env = (false, eval a X.env) :: starEach [.Name xT p2] X.env := by rfl) (he2 : starEach [.Name xT p2] X.env = (false, eval (.Name xT p2) X.env) :: starEach [] X.env := by rfl)
    (hpl : (backTo pos (starEach [.Name xT p2] X.env)).any (·.1) = false := by rfl) :
    DE X F (.Call (.Name "isinstance" p) [a, .Name xT p2] [] pos) (wIsi T ta) :=
  (pe_callB call_isi hg hi hvi (pa_cons ha (pa_cons (pe_bltn (v := .ty T.s) hgT hT hv rfl hn hdb) pa_nil he2) he) (by decide) (by decide) he hpl).weak fun σ H Q ⟨P, ρ, Q', L, q, k⟩ => ⟨P, ρ, _, L, q, fun x v P1 ρ1 H1 g1 r1 q0 => let ⟨t, h1, h2, q1⟩ := asTy_inv q0
    ⟨v, .ty T.s, .type t.s, .type T.s, t.e T, rfl, .ty T.s, by rw [hK]; exact rel_ty g1.lk r1.rel h1 h2, kit_ty (t.kit T hnn), k (.bl (t.e T)) _ P1 ρ1 H1 g1 rfl q1⟩⟩
def dIsi2 (n m : Ty) : D → (D → Prop) → Prop := fun x Q => asTy x fun t => Q (.bl (t.e n || t.e m))
/-- isinstance(x, (T, U)) -/
theorem de_isi2 (hK : X.K = F.S.K) (T U : Ty) {xT xU : Str} {p p2 p3 tp : Pos} {z} (ha : DB X F a ta) (hi : X.mg "isinstance" = none) (hT : X.mg xT = none) (hU : X.mg xU = none) (hg : Gl X "isinstance" := by rfl) (hgT : Gl X xT := by rfl) (hgU : Gl X xU := by rfl)
    (hv : bootBuiltins xT = some (.type T.s) := by decide +kernel) (hvU : bootBuiltins xU = some (.type U.s) := by decide +kernel) (hnn : T ≠ .non := by intro z; cases z) (hnU' : U ≠ .non := by intro z; cases z)
    (hvi : bootBuiltins "isinstance" = some (.builtin "isinstance") := by decide +kernel) (hn : xT ≠ "__name__" := by decide) (hnU : xU ≠ "__name__" := by decide) (hdb : (xT == ("__debug__" : Str)) = false := by decide) (hdbU : (xU == ("__debug__" : Str)) = false := by decide)
    (he : starEach (a :: [.Tuple [.Name xT p2, .Name xU p3] z tp]) X.env = (false, eval a X.env) :: starEach [.Tuple [.Name xT p2, .Name xU p3] z tp] X.env := by rfl)
    (he2 : starEach [.Tuple [.Name xT p2, .Name xU p3] z tp] X.env = (false, eval (.Tuple [.Name xT p2, .Name xU p3] z tp) X.env) :: starEach [] X.env := by rfl)
    (he3 : starEach [.Name xT p2, .Name xU p3] X.env = (false, eval (.Name xT p2) X.env) :: starEach [.Name xU p3] X.env := by rfl) (he4 : starEach [.Name xU p3] X.env = (false, eval (.Name xU p3) X.env) :: starEach [] X.env := by rfl)
    (hpl : (backTo pos (starEach [.Tuple [.Name xT p2, .Name xU p3] z tp] X.env)).any (·.1) = false := by rfl) :
    DE X F (.Call (.Name "isinstance" p) [a, .Tuple [.Name xT p2, .Name xU p3] z tp] [] pos) (w1 (dIsi2 T U) ta) :=
  (pe_callB call_isiT hg hi hvi (pa_cons ha (pa_cons (pe_tup (pa_cons (pe_bltn (v := .ty T.s) hgT hT hv rfl hn hdb) (pa_cons (pe_bltn (v := .ty U.s) hgU hU hvU rfl hnU hdbU) pa_nil he4) he3)) pa_nil he2) he) (by decide) (by decide) he hpl).weak
    fun σ H Q ⟨P, ρ, Q', L, q, k⟩ => ⟨P, ρ, _, L, q, fun x v P1 ρ1 H1 g1 r1 q0 => ⟨by show 2 ≤ sizeLine; decide, fun tp htp => by
      have L2 := g1.lk.new (o := .tup [.ty T.s, .ty U.s]) htp
      obtain ⟨t, h1, h2, q1⟩ := asTy_inv q0
      have h3 := t.kit T hnn
      have h4 := t.kit U hnU'
      refine ⟨v, tp, [.ty T.s, .ty U.s], .type t.s, [.type T.s, .type U.s], t.e T || t.e U, rfl, upd_same, .cons (.ty T.s) (.cons (.ty U.s) .nil), ?_, ?_, k (.bl _) _ P1 ρ1 _ (g1.trans L L2) rfl q1⟩
      · rw [hK]
        exact rel_ty L2.lk (r1.gr g1.lk L2).rel h1 h2
      · generalize t.e T = b1 at h3 q1 ⊢
        generalize t.e U = b2 at h4 q1 ⊢
        clear q1 q0
        cases b1 with
        | true => exact kitAny_cons (kit_ty h3) (fun z => nomatch z) fun _ => rfl
        | false =>
          refine kitAny_cons (kit_ty h3) (fun _ => ?_) fun z => nomatch z
          cases b2 with
          | true => exact kitAny_cons (kit_ty h4) (fun z => nomatch z) fun _ => rfl
          | false => exact kitAny_cons (kit_ty h4) (fun _ => rfl) fun z => nomatch z⟩⟩
end
/-! ### repr -/
def dRepr : W1 := fun x Q => WfN 64 x ∧ RepOk x ∧ Q (.str x.py.shown)
def rRepr (K : PySem.W.Frag) : List V → Hp → VK → Prop := fun xs H Q => ∃ v d, xs = [v] ∧ Dp K H v d ∧ SeqAt.shaped d = true ∧ d.showable = true ∧ d.shown.length ≤ sizeLine ∧ Q (.str d.shown) H
section
variable {X : Cx} {F : Fr}
theorem call_reprD (hgu : X.A.guards = some []) (hu : X.A.units + 70 < cLine) : CallR X (.builtin "repr") (rRepr X.K) := by
  intro pins s σ H xs us Q I r h
  obtain ⟨v, d, rfl, hd, hs, hw, hz, q⟩ := h
  obtain ⟨u, rfl, ru⟩ := Vals.one r
  have shp : d.canLay0 = true ∧ d.depth ≤ 64 := by simpa [SeqAt.shaped] using hs
  cases d with
  | none =>
    cases hd
    cases ru
    exact PySem.P.repr_of_none ⟨.str _, H, I.tok _, ⟨_, rfl⟩, q⟩
  | bool b =>
    cases hd
    cases ru
    exact PySem.P.repr_of_bool ⟨.str _, H, I.tok _, ⟨_, rfl⟩, q⟩
  | int i =>
    cases hd
    obtain ⟨t, rfl⟩ := ru
    have hw' : i.natAbs.log2 < 1920 := by simpa [PyData.showable] using hw
    exact PySem.P.repr_of_int hw' ⟨.str _, H, I.tok _, ⟨_, rfl⟩, q⟩
  | str x =>
    cases hd
    obtain ⟨t, rfl⟩ := ru
    exact PySem.P.repr_of_str ⟨.str _, H, I.tok _, ⟨_, rfl⟩, q⟩ hz
  | list ds =>
    obtain ⟨as, hr⟩ := Dp.reads I _ _ _ hd ru
    cases hd
    cases ru
    have nd := PyData.hasDict_of_canLay _ shp.1
    exact repr_of_reads' hr hw (PyData.noDict_hsm nd) hgu (by omega) (fun b o e => e) (fun h' u tk hk => ⟨.str _, H, I.kept (t' := tk) hk, ⟨_, rfl⟩, q⟩) hz
  | tuple ds =>
    obtain ⟨as, hr⟩ := Dp.reads I _ _ _ hd ru
    cases hd
    cases ru
    have nd := PyData.hasDict_of_canLay _ shp.1
    exact repr_of_reads' hr hw (PyData.noDict_hsm nd) hgu (by omega) (fun b o e => e) (fun h' u tk hk => ⟨.str _, H, I.kept (t' := tk) hk, ⟨_, rfl⟩, q⟩) hz
  | dict _ => cases hd
theorem o_repr : OpN Rs F (rRepr F.S.K) (d1 dRepr) := fun P ρ σ H xs vs Q Q' L r q k => by
  replace q := d1_inv q
  obtain ⟨x, rfl, w', rp, q⟩ := q
  have w := w'.out
  obtain ⟨sh, z⟩ := rp.out
  replace r := rs1 r
  obtain ⟨v, rfl, rx⟩ := r
  exact ⟨v, x.py, rfl, Rel.dp x v w rx.rel, wf_shaped w, sh, sz_line z, k (.str _) _ H L.gr rfl q⟩
end
end DL
namespace DL
open PySem PySem.Spec PyProof.Rows L2
/-! ### names are set -/
section
variable {F : Fr} {P P' : AS} {ρ ρ' : Ev} {σ σ' : St} {H H' : Hp} {d : D} {v : V}
def Ev.put (ρ : Ev) (i : Nat) (s : Slot) : Ev := { ρ with sl := ρ.sl.set i s }
theorem get_set {α : Type} {l : List α} {i j : Nat} {x y : α} (h : (l.set i x)[j]? = some y) : (j = i ∧ y = x) ∨ (j ≠ i ∧ l[j]? = some y) := by
  by_cases e : j = i
  · subst e
    by_cases hl : j < l.length
    · rw [List.getElem?_set_self hl] at h
      cases h
      exact .inl ⟨rfl, rfl⟩
    · rw [List.getElem?_eq_none (by simpa using hl)] at h
      cases h
  · rw [List.getElem?_set_ne (Ne.symm e)] at h
    exact .inr ⟨e, h⟩
theorem get_put {i : Nat} {s : Slot} (L : Lk F P ρ σ H) {j : Nat} {t : Slot} (h : (ρ.put i s).sl[j]? = some t) (w : V) : (j = i ∧ t = s ∧ (σ.set i (some w))[j]? = some (some w)) ∨ (j ≠ i ∧ ρ.sl[j]? = some t ∧ (σ.set i (some w))[j]? = σ[j]?) := by
  have hl : j < ρ.sl.length := by
    have := (List.getElem?_eq_some_iff.mp h).1
    simpa [Ev.put] using this
  rcases get_set (show (ρ.sl.set i s)[j]? = some t from h) with ⟨e, e2⟩ | ⟨e, e2⟩
  · subst e
    exact .inl ⟨rfl, e2, List.getElem?_set_self (by rw [← L.len]; exact hl)⟩
  · exact .inr ⟨e, e2, List.getElem?_set_ne (Ne.symm e)⟩
/-- a slot is overwritten: what is not to be leaned on hardly grows -/
theorem off_put (L : Lk F P ρ σ H) {i : Nat} {s : Slot} {w : V} {a : Addr} (h : Off F P (ρ.put i s) (σ.set i (some w)) a) : Off F P ρ σ a ∨ (s.owns = true ∧ w = .ref a) := by
  rcases h with h | h | ⟨j, t, h1, h2, h3⟩
  · exact .inl (.inl h)
  · exact .inl (.inr (.inl h))
  · rcases get_put L h1 w with ⟨e1, e2, e3⟩ | ⟨e1, e2, e3⟩
    · subst e2
      rw [e3] at h3
      injection h3 with h3; injection h3 with h3
      exact .inr ⟨h2, h3⟩
    · rw [e3] at h3
      exact .inl (.inr (.inr ⟨j, t, e2, h2, h3⟩))
theorem Lk.setsh (L : Lk F P ρ σ H) (i : Nat) (r : VRs F P ρ σ H d v) : Lk F P (ρ.put i (.sh d)) (σ.set i (some v)) H ∧ Sy F P ρ σ H P (ρ.put i (.sh d)) (σ.set i (some v)) H := by
  have hid : ∀ a o, hide H (Off F P ρ σ) a = some o → hide H (Off F P (ρ.put i (.sh d)) (σ.set i (some v))) a = some o := fun a o h => by
    obtain ⟨h1, h2⟩ := hide_some.mp h
    refine hide_some.mpr ⟨fun z => ?_, h2⟩
    rcases off_put L z with z | ⟨z, _⟩
    · exact h1 z
    · cases z
  refine ⟨⟨by simpa [Ev.put] using L.len, L.bp, L.b0, L.m0, L.pp, fun a z => (L.pn a z).keep (fun _ _ z => z) hid, L.pf, L.cap, L.keep, L.mt, fun j t h => ?_, fun j j' t t' a h1 h2 o1 o2 e1 e2 => ?_⟩, ⟨fun _ z => z, hid⟩⟩
  · rcases get_put L h v with ⟨e1, e2, e3⟩ | ⟨e1, e2, e3⟩
    · subst e2
      exact ⟨v, e3, r.mono hid fun _ z => z⟩
    · have q := L.val j t e2
      cases t with
      | un => trivial
      | sh d' =>
        obtain ⟨u, h1, h2⟩ := q
        exact ⟨u, by rw [e3]; exact h1, h2.mono hid fun _ z => z⟩
      | ow xs =>
        obtain ⟨a, vs, h1, h2, h3, h4, h5⟩ := q
        exact ⟨a, vs, by rw [e3]; exact h1, h2, h3, h4, h5.mono hid fun _ z => z⟩
      | sf c fs =>
        obtain ⟨a, dx, vs, h1, h2, h3, h4, h5, h6⟩ := q
        exact ⟨a, dx, vs, by rw [e3]; exact h1, h2, h3, h4, h5, h6.mono hid fun _ z => z⟩
  · rcases get_put L h1 v with ⟨a1, a2, a3⟩ | ⟨a1, a2, a3⟩
    · subst a2; cases o1
    · rcases get_put L h2 v with ⟨b1, b2, b3⟩ | ⟨b1, b2, b3⟩
      · subst b2; cases o2
      · rw [a3] at e1
        rw [b3] at e2
        exact L.apart j j' t t' a a2 b2 o1 o2 e1 e2
theorem Lk.setow {P₀ : AS} {ρ₀ : Ev} {H₀ : Hp} {xs : List D} (i : Nat) (hz : i ≠ 0 ∨ ∀ b, ¬ F.M0 b) (L₀ : Lk F P₀ ρ₀ σ H₀) (r : Rf F P₀ ρ₀ H₀ σ P ρ H (.lst xs) v) : Lk F P (ρ.put i (.ow xs)) (σ.set i (some v)) H ∧ Sy F P₀ ρ₀ σ H₀ P (ρ.put i (.ow xs)) (σ.set i (some v)) H := by
  obtain ⟨ys, a, vs, Hm, e, rfl, rfl, hm, g, h5⟩ := r
  cases e
  have L := g.lk
  have up : ∀ {b : Addr} {o : HO}, Hm b = some o → upd Hm a (.lst vs) b = some o := fun {b o} h => by rw [upd_ne (ne_of_none h hm)]; exact h
  have noff : ¬ Off F P ρ σ a := L.newOff hm
  have hid : ∀ b o, hide Hm (Off F P ρ σ) b = some o → hide (upd Hm a (.lst vs)) (Off F P (ρ.put i (.ow xs)) (σ.set i (some (.ref a)))) b = some o := fun b o h => by
    obtain ⟨q1, q4⟩ := hide_some.mp h
    refine hide_some.mpr ⟨fun z => ?_, up q4⟩
    rcases off_put L z with z | ⟨_, z⟩
    · exact q1 z
    · cases z; rw [hm] at q4; cases q4
  refine ⟨⟨by simpa [Ev.put] using L.len, L.bp, fun b z => by obtain ⟨o, q⟩ := L.b0 b z; exact ⟨o, up q⟩, L.m0, L.pp, fun b z => (L.pn b z).keep (fun c o => up) hid, L.pf, L.cap, fun b o e np nm => up (L.keep b o e np nm), fun b m => by obtain ⟨o, q⟩ := L.mt b m; exact ⟨o, up q⟩, fun j t h => ?_, fun j j' t t' b g1 g2 o1 o2 e1 e2 => ?_⟩, ⟨g.pp, fun b o q => hid b o (g.hid L₀ b o q)⟩⟩
  · rcases get_put L h (.ref a) with ⟨e1, e2, e3⟩ | ⟨e1, e2, e3⟩
    · subst e2
      exact ⟨a, vs, e3, upd_same, ⟨.inl ⟨L.new0 hm, by rw [e1]; exact hz⟩, fun z => noff (.inl z)⟩, fun z => noff (.inr (.inl z)), h5.mono hid fun _ z => z⟩
    · have q := L.val j t e2
      cases t with
      | un => trivial
      | sh d' =>
        obtain ⟨u, h1, h2⟩ := q
        exact ⟨u, by rw [e3]; exact h1, h2.mono hid fun _ z => z⟩
      | ow xs =>
        obtain ⟨b, vs, h1, h2, h3, h4, h5⟩ := q
        exact ⟨b, vs, by rw [e3]; exact h1, up h2, h3, h4, h5.mono hid fun _ z => z⟩
      | sf c fs =>
        obtain ⟨b, dx, vs, h1, h2, h3, h4, h5, h6⟩ := q
        exact ⟨b, dx, vs, by rw [e3]; exact h1, up h2, h3, h4, h5, h6.mono hid fun _ z => z⟩
  · have own : ∀ {j : Nat} {t : Slot}, ρ.sl[j]? = some t → t.owns = true → σ[j]? ≠ some (some (.ref a)) := fun g o e => noff (.inr (.inr ⟨_, _, g, o, e⟩))
    rcases get_put L g1 (.ref a) with ⟨a1, a2, a3⟩ | ⟨a1, a2, a3⟩
    · rcases get_put L g2 (.ref a) with ⟨b1, b2, b3⟩ | ⟨b1, b2, b3⟩
      · rw [a1, b1]
      · rw [a3] at e1
        injection e1 with e1; injection e1 with e1; injection e1 with e1
        subst e1
        rw [b3] at e2
        exact absurd e2 (own b2 o2)
    · rcases get_put L g2 (.ref a) with ⟨b1, b2, b3⟩ | ⟨b1, b2, b3⟩
      · rw [b3] at e2
        injection e2 with e2; injection e2 with e2; injection e2 with e2
        subst e2
        rw [a3] at e1
        exact absurd e1 (own a2 o1)
      · rw [a3] at e1
        rw [b3] at e2
        exact L.apart j j' t t' b a2 b2 o1 o2 e1 e2
end
/-! ### blocks, small statements -/
section
variable {X : Cx} {F : Fr} {R : RR} [Tr R] {ta tb tc : TD} {a b c : Expr} {pos : Pos} {st : Stmt} {rest : List Stmt} {t u : TDS}
def wNext : TDS := fun D ρ => D.nx ρ
def wSeq (t u : TDS) : TDS := fun D ρ => t { D with nx := u D } ρ
theorem dss_nil : DSs X F [] wNext := pss_nil.weak fun D σ H ⟨P, ρ, D', L, q, n, _⟩ => n P ρ σ H L .refl q
theorem seq_up : ∀ D σ H, upS F (wSeq t u) D σ H → tSeq (upS F t) (upS F u) D σ H := fun D σ H ⟨P, ρ, D', L, q, n, b, c, r⟩ =>
  ⟨P, ρ, _, L, q, fun P1 ρ1 σ1 H1 L1 s1 q1 => ⟨P1, ρ1, D', L1, q1, fun P2 ρ2 σ2 H2 L2 s2 => n P2 ρ2 σ2 H2 L2 (s1.trans s2), fun P2 ρ2 σ2 H2 L2 s2 => b P2 ρ2 σ2 H2 L2 (s1.trans s2), fun P2 ρ2 σ2 H2 L2 s2 => c P2 ρ2 σ2 H2 L2 (s1.trans s2), r⟩, b, c, r⟩
theorem dss_cons (h : DS X F st t) (h2 : DSs X F rest u) : DSs X F (st :: rest) (wSeq t u) := (pss_cons h h2).weak seq_up
theorem dss_one (h : DS X F st t) : DSs X F [st] t := pss_one h
theorem ds_pass : DS X F (.Pass pos) wNext := ps_pass.weak fun D σ H ⟨P, ρ, D', L, q, n, _⟩ => n P ρ σ H L .refl q
def wBrk : TDS := fun D ρ => D.bk ρ
def wCnt : TDS := fun D ρ => D.ct ρ
theorem ds_brk : DS X F (.Break pos) wBrk := ps_break.weak fun D σ H ⟨P, ρ, D', L, q, n, b, _⟩ => b P ρ σ H L .refl q
theorem ds_cnt : DS X F (.Continue pos) wCnt := ps_continue.weak fun D σ H ⟨P, ρ, D', L, q, n, b, c, _⟩ => c P ρ σ H L .refl q
def wNev : TDS := fun _ _ => False
theorem ds_never : DS X F st wNev := ps_never.weak fun D σ H ⟨P, ρ, D', L, q, _⟩ => q
def wDrop (t : TD) : TDS := fun D ρ => t ρ fun _ ρ1 => D.nx ρ1
theorem ds_expr (h : DB X F a ta) (hs : swapsWith a none pos.line X.env = pure false := by rfl) : DS X F (.Expr a pos) (wDrop ta) := (ps_expr h hs).weak fun D σ H ⟨P, ρ, D', L, q, n, _⟩ => ⟨P, ρ, _, L, q, fun d v P1 ρ1 H1 g1 r1 q1 => n P1 ρ1 σ H1 g1.lk (g1.sy L) q1⟩
def wRet (t : TD) : TDS := fun D ρ => t ρ fun d ρ1 => D.rt d ρ1
theorem ds_ret (h : DE X F a ta) : DS X F (.Return (some a) pos) (wRet ta) := (ps_ret h).weak fun D σ H ⟨P, ρ, D', L, q, _, _, _, r⟩ => ⟨P, ρ, _, L, q, fun d v P1 ρ1 H1 g1 r1 q1 => r d v P1 ρ1 σ H1 g1.lk r1 q1⟩
def wRetN : TDS := fun D ρ => D.rt .non ρ
theorem ds_retN : DS X F (.Return none pos) wRetN := ps_retN.weak fun D σ H ⟨P, ρ, D', L, q, _, _, _, r⟩ => r .non .non P ρ σ H L (show VRs F P ρ σ H .non .non from rfl) q
def wIfS (c : TDt) (t u : TDS) : TDS := fun D ρ => c ρ fun k ρ1 => dIte k (t D ρ1) (u D ρ1)
theorem ds_if {s1 s2 : List Stmt} {tt : TDt} (h : DT X F c tt) (h1 : DSs X F s1 t) (h2 : DSs X F s2 u) : DS X F (.If c s1 s2 pos) (wIfS tt t u) := (ps_if h h1 h2).weak fun D σ H ⟨P, ρ, D', L, q, n, b, c, r⟩ =>
  ⟨P, ρ, _, L, q, fun k P1 ρ1 H1 g1 q1 => by
    have s1 := g1.sy L
    have fin : ∀ {w : TDS}, w D' ρ1 → upS F w D σ H1 := fun {w} q => ⟨P1, ρ1, D', g1.lk, q, fun P2 ρ2 σ2 H2 L2 s2 => n P2 ρ2 σ2 H2 L2 (s1.trans s2), fun P2 ρ2 σ2 H2 L2 s2 => b P2 ρ2 σ2 H2 L2 (s1.trans s2), fun P2 ρ2 σ2 H2 L2 s2 => c P2 ρ2 σ2 H2 L2 (s1.trans s2), r⟩
    cases k with
    | true => exact iteT (fin (by simpa using q1))
    | false => exact iteF (fin (by simpa using q1))⟩
/-- x = e, shared -/
def wAsg (i : Nat) (t : TD) : TDS := fun D ρ => t ρ fun d ρ1 => D.nx (ρ1.put i (.sh d))
theorem asg_up (i : Nat) : ∀ D σ H, upS F (wAsg i ta) D σ H → tAsg (up Rs F ta) (gName i) D σ H := fun D σ H ⟨P, ρ, D', L, q, n, _⟩ => ⟨P, ρ, _, L, q, fun d v P1 ρ1 H1 g1 r1 q1 => by
  obtain ⟨L2, s2⟩ := g1.lk.setsh i r1
  exact n P1 _ _ H1 L2 ((g1.sy L).trans s2) q1⟩
theorem ds_set (i : Nat) {x : Str} {pos' : Pos} (hN : X.N.Nodup) (h : DE X F a ta) (hi : X.N[i]? = some x := by rfl) (hx : Loc X.env.scope x := by first | exact Or.inl rfl | exact Or.inr rfl) (hs : swapsWith a (some (.Name x pos')) pos.line X.env = pure false := by rfl)
    (hf : X.fn x = true ∨ X.env.scope.names.lookup x = some .local := by first | exact .inl rfl | exact .inr rfl) : DS X F (.Assign [.Name x pos'] a pos) (wAsg i ta) := (ps_set hN hi hx h hs hf).weak (asg_up i)
/-- x = e, one's own list -/
def wOwn (i : Nat) (t : TD) : TDS := fun D ρ => t ρ fun d ρ1 => asL d fun xs => D.nx (ρ1.put i (.ow xs))
theorem own_up (i : Nat) (hz : i ≠ 0 ∨ ∀ b, ¬ F.M0 b) : ∀ D σ H, upS F (wOwn i ta) D σ H → tAsg (up Rf F ta) (gName i) D σ H := fun D σ H ⟨P, ρ, D', L, q, n, _⟩ => ⟨P, ρ, _, L, q, fun d v P1 ρ1 H1 g1 r1 q0 => by
  obtain ⟨xs, e, q1⟩ := asL_inv q0
  subst e
  obtain ⟨L2, s2⟩ := Lk.setow i hz L r1
  exact n P1 _ _ H1 L2 s2 q1⟩
theorem ds_own (i : Nat) {x : Str} {pos' : Pos} (hN : X.N.Nodup) (h : DF X F a ta) (hz : i ≠ 0 ∨ ∀ b, ¬ F.M0 b := by exact Or.inl (by decide)) (hi : X.N[i]? = some x := by rfl) (hx : Loc X.env.scope x := by first | exact Or.inl rfl | exact Or.inr rfl) (hs : swapsWith a (some (.Name x pos')) pos.line X.env = pure false := by rfl)
    (hf : X.fn x = true ∨ X.env.scope.names.lookup x = some .local := by first | exact .inl rfl | exact .inr rfl) : DS X F (.Assign [.Name x pos'] a pos) (wOwn i ta) := (ps_set hN hi hx h hs hf).weak (own_up i hz)
/-- one's own list is shared from here on -/
def wShare (i : Nat) (t : TDS) : TDS := fun D ρ => match ρ.sl[i]? with
  | some (.ow xs) => t D (ρ.put i (.sh (.lst xs)))
  | _ => t D ρ
end
end DL
namespace DL
open PySem PySem.Spec PyProof.Rows L2
/-! ### one's own list is shared from here on -/
section
variable {X : Cx} {F : Fr} {P P' : AS} {ρ ρ' : Ev} {σ σ' : St} {H H' : Hp} {d : D} {v : V}
theorem Lk.share (L : Lk F P ρ σ H) {i : Nat} {xs : List D} (e : ρ.sl[i]? = some (.ow xs)) : Lk F P (ρ.put i (.sh (.lst xs))) σ H ∧ Sy F P ρ σ H P (ρ.put i (.sh (.lst xs))) σ H := by
  obtain ⟨a, vs, h1, h2, ⟨h3, hb⟩, h4, h5⟩ := L.val i _ e
  have off : ∀ {b : Addr}, Off F P (ρ.put i (.sh (.lst xs))) σ b → Off F P ρ σ b ∧ b ≠ a := fun {b} z => by
    rcases z with z | z | ⟨j, t, g1, g2, g3⟩
    · exact ⟨.inl z, fun q => by subst q; exact hb z⟩
    · exact ⟨.inr (.inl z), fun q => by subst q; exact h4 z⟩
    · rcases get_set (show (ρ.sl.set i (.sh (.lst xs)))[j]? = some t from g1) with ⟨q1, q2⟩ | ⟨q1, q2⟩
      · subst q2; cases g2
      · refine ⟨.inr (.inr ⟨j, t, q2, g2, g3⟩), fun q => ?_⟩
        subst q
        exact q1 (L.apart j i t _ b q2 e g2 rfl g3 h1)
  have hid : ∀ b o, hide H (Off F P ρ σ) b = some o → hide H (Off F P (ρ.put i (.sh (.lst xs))) σ) b = some o := fun b o h => by
    obtain ⟨q1, q2⟩ := hide_some.mp h
    exact hide_some.mpr ⟨fun z => q1 (off z).1, q2⟩
  refine ⟨⟨by simpa [Ev.put] using L.len, L.bp, L.b0, L.m0, L.pp, fun a z => (L.pn a z).keep (fun _ _ z => z) hid, L.pf, L.cap, L.keep, L.mt, fun j t h => ?_, fun j j' t t' b g1 g2 o1 o2 e1 e2 => ?_⟩, ⟨fun _ z => z, hid⟩⟩
  · rcases get_set (show (ρ.sl.set i (.sh (.lst xs)))[j]? = some t from h) with ⟨q1, q2⟩ | ⟨q1, q2⟩
    · subst q1 q2
      exact ⟨.ref a, h1, a, vs, rfl, hide_some.mpr ⟨fun z => (off z).2 rfl, h2⟩, h5.mono hid fun _ z => z⟩
    · have q := L.val j t q2
      cases t with
      | un => trivial
      | sh d' =>
        obtain ⟨u, h1, h2⟩ := q
        exact ⟨u, h1, h2.mono hid fun _ z => z⟩
      | ow xs =>
        obtain ⟨a, vs, h1, h2, h3, h4, h5⟩ := q
        exact ⟨a, vs, h1, h2, h3, h4, h5.mono hid fun _ z => z⟩
      | sf c fs =>
        obtain ⟨a, dx, vs, h1, h2, h3, h4, h5, h6⟩ := q
        exact ⟨a, dx, vs, h1, h2, h3, h4, h5, h6.mono hid fun _ z => z⟩
  · rcases get_set (show (ρ.sl.set i (.sh (.lst xs)))[j]? = some t from g1) with ⟨q1, q2⟩ | ⟨q1, q2⟩
    · subst q2; cases o1
    · rcases get_set (show (ρ.sl.set i (.sh (.lst xs)))[j']? = some t' from g2) with ⟨q3, q4⟩ | ⟨q3, q4⟩
      · subst q4; cases o2
      · exact L.apart j j' t t' b q2 q4 o1 o2 e1 e2
theorem dss_share (i : Nat) {st : List Stmt} {t : TDS} (h : DSs X F st t) : DSs X F st (wShare i t) := h.weak fun D σ H ⟨P, ρ, D', L, q, n, b, c, r⟩ => by
  unfold wShare at q
  split at q
  · rename_i xs e
    obtain ⟨L2, s2⟩ := L.share e
    exact ⟨P, _, D', L2, q, fun P2 ρ2 σ2 H2 L3 s3 => n P2 ρ2 σ2 H2 L3 (s2.trans s3), fun P2 ρ2 σ2 H2 L3 s3 => b P2 ρ2 σ2 H2 L3 (s2.trans s3), fun P2 ρ2 σ2 H2 L3 s3 => c P2 ρ2 σ2 H2 L3 (s2.trans s3), r⟩
  · exact ⟨P, ρ, D', L, q, n, b, c, r⟩
end
/-! ### targets -/
abbrev TDg := D → Ev → (Ev → Prop) → Prop
abbrev TDgs := List D → Ev → (Ev → Prop) → Prop
/-- the slots js are set, no more -/
structure Set (F : Fr) (P : AS) (ρ : Ev) (σ : St) (ρ' : Ev) (σ' : St) (js : List Nat) : Prop where
  wp : ∀ ws : List Nat, (∀ j ∈ js, j ∈ ws) → wipe σ' ws = wipe σ ws
  bd : ρ'.bud = ρ.bud
  ow : ∀ (j : Nat) (s : Slot), ρ'.sl[j]? = some s → s.owns = true → ρ.sl[j]? = some s
  of : (∀ j ∈ js, ∀ s, ρ.sl[j]? = some s → s.owns = false) → ∀ a, Off F P ρ σ a → Off F P ρ' σ' a
/-- js: the slots that are set -/
def upG (F : Fr) (js : List Nat) (g : TDg) : TG := fun v σ H Q => ∃ P ρ d Q', Lk F P ρ σ H ∧ VRs F P ρ σ H d v ∧ g d ρ Q' ∧ ∀ ρ' σ', Lk F P ρ' σ' H → Sy F P ρ σ H P ρ' σ' H → Set F P ρ σ ρ' σ' js → Q' ρ' → Q σ' H
def upGs (F : Fr) (js : List Nat) (g : TDgs) : TGs := fun vs σ H Q => ∃ P ρ ds Q', Lk F P ρ σ H ∧ Rels F.S P (hide H (Off F P ρ σ)) ds vs ∧ g ds ρ Q' ∧ ∀ ρ' σ', Lk F P ρ' σ' H → Sy F P ρ σ H P ρ' σ' H → Set F P ρ σ ρ' σ' js → Q' ρ' → Q σ' H
abbrev DG (X : Cx) (F : Fr) (e : Expr) (js : List Nat) (g : TDg) : Prop := PG X e (upG F js g)
abbrev DGs (X : Cx) (F : Fr) (e : List Expr) (js : List Nat) (g : TDgs) : Prop := PGs X e (upGs F js g)
theorem _root_.L2.PG.weak {X : Cx} {e : Expr} {t t' : TG} (h : PG X e t) (k : ∀ v σ H Q, t' v σ H Q → t v σ H Q) : PG X e t' := ⟨fun pins s σ H v u Q I r q => h.run pins s σ H v u Q I r (k v σ H Q q)⟩
theorem _root_.L2.PGs.weak {X : Cx} {e : List Expr} {t t' : TGs} (h : PGs X e t) (k : ∀ v σ H Q, t' v σ H Q → t v σ H Q) : PGs X e t' := ⟨fun pins s σ H v u Q I r q => h.run pins s σ H v u Q I r (k v σ H Q q)⟩
theorem wipe_set {σ : St} {i : Nat} {x : Option V} : ∀ {ws : List Nat}, i ∈ ws → wipe (σ.set i x) ws = wipe σ ws
  | [], h => by simp at h
  | w :: ws, h => by
    unfold wipe
    by_cases e : i ∈ ws
    · rw [wipe_set e]
    · have e2 : i = w := by
        rcases List.mem_cons.mp h with h | h
        · exact h
        · exact absurd h e
      subst e2
      have c : ∀ {ws : List Nat}, i ∉ ws → wipe (σ.set i x) ws = (wipe σ ws).set i x := fun {ws} => by
        induction ws with
        | nil => intro _; rfl
        | cons w ws ih =>
          intro hn
          simp only [List.mem_cons, not_or] at hn
          unfold wipe
          rw [ih hn.2, List.set_comm _ _ hn.1]
      rw [c e, List.set_set]
def gNm (i : Nat) : TDg := fun d ρ Q => Q (ρ.put i (.sh d))
def gsNil : TDgs := fun ds ρ Q => ds = [] ∧ Q ρ
def gsCons (g : TDg) (gs : TDgs) : TDgs := fun ds ρ Q => match ds with
  | d :: r => g d ρ fun ρ1 => gs r ρ1 Q
  | [] => False
def gTp (n : Nat) (gs : TDgs) : TDg := fun d ρ Q => match d with
  | .tup xs => xs.length = n ∧ gs xs ρ Q
  | _ => False
section
variable {X : Cx} {F : Fr} {pos : Pos}
theorem dg_name (i : Nat) {x : Str} (hN : X.N.Nodup) (hi : X.N[i]? = some x := by rfl) (hx : Loc X.env.scope x := by first | exact Or.inl rfl | exact Or.inr rfl) (hf : X.fn x = true ∨ X.env.scope.names.lookup x = some .local := by first | exact .inl rfl | exact .inr rfl) :
    DG X F (.Name x pos) [i] (gNm i) := (pg_name hN hi hx hf).weak fun v σ H Q ⟨P, ρ, d, Q', L, r, q, k⟩ => by
  obtain ⟨L2, s2⟩ := L.setsh i r
  refine k _ _ L2 s2 ⟨fun ws h => wipe_set (h i (by simp)), rfl, fun j s h o => ?_, fun no a z => ?_⟩ q
  · rcases get_set (show (ρ.sl.set i (.sh d))[j]? = some s from h) with ⟨_, e⟩ | ⟨_, e⟩
    · subst e; cases o
    · exact e
  · rcases z with z | z | ⟨j, s, h1, h2, h3⟩
    · exact .inl z
    · exact .inr (.inl z)
    · have ne : j ≠ i := fun e => by
        subst e
        rw [no j (by simp) s h1] at h2; cases h2
      exact .inr (.inr ⟨j, s, by rw [show (ρ.put i (.sh d)).sl = ρ.sl.set i (.sh d) from rfl, List.getElem?_set_ne (Ne.symm ne)]; exact h1, h2, by rw [List.getElem?_set_ne (Ne.symm ne)]; exact h3⟩)
theorem dgs_nil : DGs X F [] [] gsNil := pgs_nil.weak fun v σ H Q ⟨P, ρ, ds, Q', L, r, ⟨e, q⟩, k⟩ => by
  subst e
  exact ⟨r, k ρ σ L .refl ⟨fun _ _ => rfl, rfl, fun _ _ h _ => h, fun _ _ z => z⟩ q⟩
theorem dgs_cons {e : Expr} {es : List Expr} {js ks : List Nat} {g : TDg} {gs : TDgs} (h1 : DG X F e js g) (h2 : DGs X F es ks gs) (hs : (assignEach (e :: es) X.env).map (·.2) = assign e X.env :: (assignEach es X.env).map (·.2) := by rfl) :
    DGs X F (e :: es) (js ++ ks) (gsCons g gs) := (pgs_cons h1 h2 hs).weak fun v σ H Q ⟨P, ρ, ds, Q', L, r, q, k⟩ => by
  cases ds with
  | nil => exact q.elim
  | cons d ds =>
    obtain ⟨v, vs, e, r1, r2⟩ := r
    refine ⟨v, vs, e, P, ρ, d, _, L, r1, q, fun ρ1 σ1 L1 s1 w1 q1 => ?_⟩
    refine ⟨P, ρ1, ds, Q', L1, r2.mono s1.hid s1.pp, q1, fun ρ2 σ2 L2 s2 w2 q2 => k ρ2 σ2 L2 (s1.trans s2) ⟨fun ws h => ?_, w2.bd.trans w1.bd, fun j s h o => w1.ow j s (w2.ow j s h o) o, fun no a z => ?_⟩ q2⟩
    · exact (w2.wp ws fun j hj => h j (List.mem_append_right _ hj)).trans (w1.wp ws fun j hj => h j (List.mem_append_left _ hj))
    · refine w2.of (fun j hj s h => ?_) a (w1.of (fun j hj => no j (List.mem_append_left _ hj)) a z)
      cases o : s.owns with
      | false => rfl
      | true => exact (no j (List.mem_append_right _ hj) s (w1.ow j s h o)).symm.trans o |>.symm
theorem dg_tup (hK : X.K = F.S.K) {es : List Expr} {z : Nat} {js : List Nat} {gs : TDgs} {n : Nat} (hc : X.calm = true) (h : DGs X F es js gs) (hn : (assignEach es X.env).length = n := by rfl) (hst : (assignEach es X.env).findIdx? (·.1) = none := by rfl) :
    DG X F (.Tuple es z pos) js (gTp n gs) := (pg_tup hc h hn hst).weak fun v σ H Q ⟨P, ρ, d, Q', L, r, q, k⟩ => by
  cases d <;> try exact False.elim q
  case tup xs =>
    obtain ⟨a, vs, rfl, h1, r1⟩ := r
    exact ⟨a, vs, rfl, SqT.of (hide_some.mp h1).2, r1.length.trans q.1, P, ρ, xs, Q', L, r1, q.2, k⟩
end
/-! ### what is walked -/
def signsD (s : Str) : List D := s.cps.toList.map fun c => .str ⟨#[c]⟩
def itD : D → Option (List D)
  | .lst xs => some xs
  | .tup xs => some xs
  | .str s => some (signsD s)
  | _ => none
/-- J yields ds, one by one, wherever what was shared stays -/
def Yl (F : Fr) (P₀ : AS) (ρ₀ : Ev) (σ₀ : St) (H₀ : Hp) (J : It) (ds : List D) : Prop := ∀ (F' : Fr) (P : AS) (ρ : Ev) (σ : St) (H : Hp) (i : Nat), F'.S = F.S → Lk F' P ρ σ H → (∀ a, P₀ a → P a) →
  (∀ a o, hide H₀ (Off F P₀ ρ₀ σ₀) a = some o → hide H (Off F' P ρ σ) a = some o) → (ds.length ≤ i → J.stop i H) ∧ ∀ d, ds[i]? = some d → J.go i H ∧ ∀ x H', J.yld i H x H' → Gr F' P ρ σ H P ρ H' ∧ VRs F' P ρ σ H' d x
abbrev TDi := Ev → (List D → Ev → Prop) → Prop
def upI (F : Fr) (wi : TDi) : TI := fun σ H R => ∃ P ρ Q', Lk F P ρ σ H ∧ wi ρ Q' ∧ ∀ ds J P' ρ' H', Gr F P ρ σ H P' ρ' H' → Yl F P' ρ' σ H' J ds → Q' ds ρ' → R J H'
abbrev DI (X : Cx) (F : Fr) (tg iter : Expr) (wi : TDi) : Prop := PI X tg iter (upI F wi)
theorem _root_.L2.PI.weak {X : Cx} {tg e : Expr} {t t' : TI} (h : PI X tg e t) (k : ∀ σ H Q, t' σ H Q → t σ H Q) : PI X tg e t' := ⟨fun pins s σ H Q I q => h.run pins s σ H Q I (k σ H Q q)⟩
section
variable {X : Cx} {F : Fr} {pos : Pos} {P : AS} {ρ : Ev} {σ : St} {H : Hp}
theorem yl_list {a : Addr} {ds : List D} {vs : List V} (h : hide H (Off F P ρ σ) a = some (.lst vs)) (r : Rels F.S P (hide H (Off F P ρ σ)) ds vs) : Yl F P ρ σ H (Itl F.S.K a) ds := fun F' P' ρ' σ' H' i eS L pp hid => by
  have q := (hide_some.mp (hid _ _ h)).2
  refine ⟨fun e => ⟨vs, SqL.of q, by rw [r.length]; exact e⟩, fun d hd => ?_⟩
  obtain ⟨v, hv, rv⟩ := r.get hd
  refine ⟨⟨vs, v, SqL.of q, hv⟩, fun x H2 y => ?_⟩
  obtain ⟨e1, e2⟩ := y
  subst e1
  have e3 := e2 vs (SqL.of q)
  rw [hv] at e3; cases e3
  exact ⟨L.gr, by show Rel F'.S _ _ _ _; rw [eS]; exact rv.mono hid pp⟩
theorem yl_tup {a : Addr} {ds : List D} {vs : List V} (h : hide H (Off F P ρ σ) a = some (.tup vs)) (r : Rels F.S P (hide H (Off F P ρ σ)) ds vs) : Yl F P ρ σ H (Itt F.S.K a) ds := fun F' P' ρ' σ' H' i eS L pp hid => by
  have q := (hide_some.mp (hid _ _ h)).2
  refine ⟨fun e => ⟨vs, SqT.of q, by rw [r.length]; exact e⟩, fun d hd => ?_⟩
  obtain ⟨v, hv, rv⟩ := r.get hd
  refine ⟨⟨vs, v, SqT.of q, hv⟩, fun x H2 y => ?_⟩
  obtain ⟨e1, e2⟩ := y
  subst e1
  have e3 := e2 vs (SqT.of q)
  rw [hv] at e3; cases e3
  exact ⟨L.gr, by show Rel F'.S _ _ _ _; rw [eS]; exact rv.mono hid pp⟩
theorem yl_str (s : Str) : Yl F P ρ σ H (Its s) (signsD s) := fun F' P' ρ' σ' H' i eS L pp hid => by
  refine ⟨fun e => by simpa [signsD, Its] using e, fun d hd => ?_⟩
  have hl : i < s.cps.size := by
    have := (List.getElem?_eq_some_iff.mp hd).1
    simpa [signsD] using this
  refine ⟨hl, fun x H2 y => ?_⟩
  obtain ⟨e1, c, e2, e3⟩ := y
  subst e1 e3
  refine ⟨L.gr, ?_⟩
  have e4 : d = .str ⟨#[c]⟩ := by
    unfold signsD at hd
    rw [List.getElem?_map, Array.getElem?_toList, e2] at hd
    simpa using hd.symm
  subst e4
  rfl
def rngD (lo hi : Int) : List D := (List.range (hi - lo).toNat).map fun (i : Nat) => .int (lo + i)
theorem yl_rng (lo hi : Int) : Yl F P ρ σ H (Itr lo (hi - lo).toNat) (rngD lo hi) := fun F' P' ρ' σ' H' i eS L pp hid => by
  refine ⟨fun e => by simpa [rngD, Itr] using e, fun d hd => ?_⟩
  have hl : i < (hi - lo).toNat := by
    have := (List.getElem?_eq_some_iff.mp hd).1
    simpa [rngD] using this
  refine ⟨hl, fun x H2 y => ?_⟩
  obtain ⟨e1, e2⟩ := y
  subst e1 e2
  refine ⟨L.gr, ?_⟩
  have e4 : d = .int (lo + i) := by
    unfold rngD at hd
    rw [List.getElem?_map, List.getElem?_range hl] at hd
    simpa using hd.symm
  subst e4
  rfl
theorem asIt_inv {x : D} {Q : List D → Prop} (h : asIt x Q) : ∃ xs, itD x = some xs ∧ Q xs := by cases x <;> first | exact ⟨_, rfl, h⟩ | exact False.elim h
def wIt (t : TD) : TDi := fun ρ Q => t ρ fun x ρ1 => asIt x fun ds => Q ds ρ1
/-- the iterator of a list, of a tuple, of a text -/
theorem it_any {tg : Expr} {pins : List (Addr × Obj)} {s : Shared} {R : It → Hp → Prop} {x : D} {v : V} {u : Value} {ds : List D} (hK : X.K = F.S.K) (I : Inv X pins σ H s) (rv : RelV v u) (r : VRs F P ρ σ H x v) (e : itD x = some ds) (k : ∀ J, Yl F P ρ σ H J ds → R J H) :
    wpAny (model X.prog X.w) X.A (pyIter u) (PIE X pins σ tg R) X.xe s := by
  cases x with
  | lst xs =>
    cases e
    obtain ⟨a, vs, rfl, h, q⟩ := r
    cases rv
    have hq : SqL X.K H a vs := SqL.of (hide_some.mp h).2
    obtain ⟨its, rv, p, hz⟩ := I.list hq
    refine wpAny_pyIter_list p.isList ?_
    exact pi_one (tk := s.toks) I _ (turn_list a _) ⟨_, Heap.get?_push_size _ rfl, rfl, rfl⟩ (by rw [hK]; exact k _ (yl_list h q))
  | tup xs =>
    cases e
    obtain ⟨a, vs, rfl, h, q⟩ := r
    cases rv
    have hq : SqT X.K H a vs := SqT.of (hide_some.mp h).2
    obtain ⟨its, rv, p, hz⟩ := I.tuple hq
    refine wpAny_pyIter_tuple (show s.heap.IsTuple a its.toArray from p) ?_
    exact pi_one (tk := s.toks) I _ (turn_tuple a _) ⟨_, Heap.get?_push_size _ rfl, rfl, rfl⟩ (by rw [hK]; exact k _ (yl_tup h q))
  | str z =>
    cases e
    have r : v = V.str z := r
    subst r
    obtain ⟨t, rfl⟩ := rv
    have kk := k _ (yl_str z)
    cases ha : z.cps.all (· < 128) with
    | false => exact wpAny_pyIter_wide ha (pi_one (tk := s.toks) I _ (turn_str _ z t "str_iterator" (.inr rfl)) ⟨_, Heap.get?_push_size _ rfl, rfl, rfl⟩ kk)
    | true => exact wpAny_pyIter_ascii ha (pi_one (tk := s.toks) I _ (turn_str _ z t "str_ascii_iterator" (.inl rfl)) ⟨_, Heap.get?_push_size _ rfl, rfl, rfl⟩ kk)
  | non => cases e
  | bl b => cases e
  | int b => cases e
  | dic ks xs => cases e
  | obj c xs => cases e
  | exc c xs => cases e
  | pen => cases e
  | scr n => cases e
theorem di_any (hK : X.K = F.S.K) {tg a : Expr} {ta : TD} (h : DE X F a ta) : DI X F tg a (wIt ta) := ⟨fun pins s σ H R I ⟨P, ρ, Q', L, q, k⟩ => by
  refine thn (h.run pins s σ H (fun v H1 => ∃ P1 ρ1 x ds, Gr F P ρ σ H P1 ρ1 H1 ∧ VRs F P1 ρ1 σ H1 x v ∧ itD x = some ds ∧ Q' ds ρ1) I ⟨P, ρ, _, L, q, fun x v P1 ρ1 H1 g1 r1 q0 => let ⟨ds, e, q1⟩ := asIt_inv q0; ⟨P1, ρ1, x, ds, g1, r1, e, q1⟩⟩) fun u s1 hu => ?_
  obtain ⟨v, H1, I1, rv, P1, ρ1, x, ds, g1, r1, e, q1⟩ := hu
  exact it_any hK I1 rv r1 e fun J y => k ds J P1 ρ1 H1 g1 y q1⟩
/-- range(n), range(a, b) -/
def dRng1 (xs : List D) (k : List D → Prop) : Prop := match xs with
  | [.int j] => (-(2 ^ 62) ≤ j ∧ j < 2 ^ 62) ∧ k (rngD 0 j)
  | _ => False
def dRng2 (xs : List D) (k : List D → Prop) : Prop := match xs with
  | [.int i, .int j] => (-(2 ^ 62) ≤ i ∧ i < 2 ^ 62 ∧ -(2 ^ 62) ≤ j ∧ j < 2 ^ 62) ∧ k (rngD i j)
  | _ => False
def wRng1 (t : TDs) : TDi := fun ρ Q => t ρ fun xs ρ1 => dRng1 xs fun ds => Q ds ρ1
def wRng2 (t : TDs) : TDi := fun ρ Q => t ρ fun xs ρ1 => dRng2 xs fun ds => Q ds ρ1
theorem di_rng1 {tg a : Expr} {ta : TD} {p : Pos} (hm : X.mg "range" = none) (h : DE X F a ta) (hg : Gl X "range" := by rfl) (hs : starEach [a] X.env = [(false, eval a X.env)] := by rfl) : DI X F tg (.Call (.Name "range" p) [a] [] pos) (wRng1 (wsCons ta wsNil)) :=
  (pi_range1 hg hm (da_cons h da_nil (by rw [hs]; rfl)) hs).weak fun σ H R ⟨P, ρ, Q', L, q, k⟩ => ⟨P, ρ, _, L, q, fun xs vs P1 ρ1 H1 g1 r1 q1 => by
    unfold dRng1 at q1
    split at q1
    · rename_i j
      obtain ⟨v, rfl, rv⟩ := rs1 r1
      have rv : v = V.int j := rv
      subst rv
      have y := yl_rng (F := F) (P := P1) (ρ := ρ1) (σ := σ) (H := H1) 0 j
      rw [Int.sub_zero] at y
      exact ⟨j, rfl, q1.1.1, q1.1.2, k _ _ P1 ρ1 H1 g1 y q1.2⟩
    · exact q1.elim⟩
theorem di_rng2 {tg a b : Expr} {ta tb : TD} {p : Pos} (hm : X.mg "range" = none) (h : DE X F a ta) (h2 : DE X F b tb) (hg : Gl X "range" := by rfl) (hs : starEach [a, b] X.env = [(false, eval a X.env), (false, eval b X.env)] := by rfl) (hs2 : starEach [b] X.env = [(false, eval b X.env)] := by rfl) :
    DI X F tg (.Call (.Name "range" p) [a, b] [] pos) (wRng2 (wsCons ta (wsCons tb wsNil))) :=
  (pi_range2 hg hm (da_cons h (da_cons h2 da_nil (by rw [hs2]; rfl)) (by rw [hs, hs2])) hs hs2).weak fun σ H R ⟨P, ρ, Q', L, q, k⟩ => ⟨P, ρ, _, L, q, fun xs vs P1 ρ1 H1 g1 r1 q1 => by
    unfold dRng2 at q1
    split at q1
    · rename_i i j
      obtain ⟨v, w, rfl, rv, rw'⟩ := rs2 r1
      have rv : v = V.int i := rv
      have rw' : w = V.int j := rw'
      subst rv rw'
      exact ⟨i, j, rfl, q1.1, k _ _ P1 ρ1 H1 g1 (yl_rng i j) q1.2⟩
    · exact q1.elim⟩
end
/-! ### for -/
def forL0 (tb : TDS) (g : TDg) (D : En) : List DL.D → Ev → Prop
  | [], ρ => D.nx ρ
  | x :: xs, ρ => g x ρ fun ρ1 => tb { D with nx := forL0 tb g D xs, ct := forL0 tb g D xs, bk := D.nx } ρ1
/-- (sealed: to be opened by lemmas) -/
@[irreducible] def forL (tb : TDS) (g : TDg) (D : En) (xs : List DL.D) (ρ : Ev) : Prop := forL0 tb g D xs ρ
theorem forL_out {tb : TDS} {g : TDg} {D : En} {xs : List DL.D} {ρ : Ev} (h : forL tb g D xs ρ) : forL0 tb g D xs ρ := by unfold forL at h; exact h
theorem forL_of {tb : TDS} {g : TDg} {D : En} {xs : List DL.D} {ρ : Ev} (h : forL0 tb g D xs ρ) : forL tb g D xs ρ := by unfold forL; exact h
def wFor (wi : TDi) (g : TDg) (tb : TDS) : TDS := fun D ρ => wi ρ fun ds ρ1 => forL tb g D ds ρ1
section
variable {X : Cx} {F : Fr} {pos : Pos} {tg iter : Expr} {body : List Stmt} {wi : TDi} {g : TDg} {tb : TDS} {js : List Nat}
theorem drop_at {α : Type} {l : List α} {i : Nat} {x : α} (h : l[i]? = some x) : l.drop i = x :: l.drop (i + 1) := by
  obtain ⟨h1, h2⟩ := List.getElem?_eq_some_iff.mp h
  rw [List.drop_eq_getElem_cons h1, h2]
theorem ds_for (hp : PassesOwn (model X.prog X.w) X.A X.env X.xe) (hc : X.calm = true) (hi : DI X F tg iter wi) (hg : DG X F tg js g) (hb : DSs X F body tb) (hs : ∀ x, foldedSetIterable iter X.env x = pure x := by intro _; rfl) :
    DS X F (.For tg iter body [] pos) (wFor wi g tb) := (ps_for hp hc hi hg hb hs).weak fun D σ H ⟨P, ρ, D', L, q, n, bk, ct, rt⟩ =>
  ⟨P, ρ, _, L, q, fun ds J P1 ρ1 H1 g1 y q1 => by
    have s1 := g1.sy L
    refine ⟨fun i m σ2 H2 => m = ds.length - i ∧ i ≤ ds.length ∧ ∃ P2 ρ2, Lk F P2 ρ2 σ2 H2 ∧ Sy F P1 ρ1 σ H1 P2 ρ2 σ2 H2 ∧ forL0 tb g D' (ds.drop i) ρ2, ⟨ds.length, by simp, Nat.zero_le _, P1, ρ1, g1.lk, .refl, forL_out q1⟩, ?_⟩
    rintro i m σ2 H2 ⟨rfl, hi, P2, ρ2, L2, s2, q2⟩
    obtain ⟨ystop, ygo⟩ := y F P2 ρ2 σ2 H2 i rfl L2 s2.pp s2.hid
    by_cases hl : i < ds.length
    · have hx : ds[i]? = some ds[i] := by simp [hl]
      obtain ⟨hgo, hy⟩ := ygo _ hx
      rw [drop_at hx] at q2
      refine .inr ⟨hgo, fun σ3 H3 => ∃ P3 ρ3, Lk F P3 ρ3 σ3 H3 ∧ Sy F P1 ρ1 σ H1 P3 ρ3 σ3 H3 ∧ forL0 tb g D' (ds.drop (i + 1)) ρ3, fun σ3 H3 w => ⟨ds.length - (i + 1), by omega, rfl, hl, w⟩, fun x H3 yx => ?_⟩
      obtain ⟨g3, r3⟩ := hy x H3 yx
      have s3 := s2.trans (g3.sy L2)
      refine ⟨P2, ρ2, _, _, g3.lk, r3, q2, fun ρ4 σ4 L4 s4 _ q4 => ?_⟩
      have s5 := s3.trans s4
      refine ⟨P2, ρ4, _, L4, q4, fun P5 ρ5 σ5 H5 L5 s6 q5 => ⟨P5, ρ5, L5, s5.trans s6, q5⟩, fun P5 ρ5 σ5 H5 L5 s6 q5 => n P5 ρ5 σ5 H5 L5 (s1.trans (s5.trans s6)) q5, fun P5 ρ5 σ5 H5 L5 s6 q5 => ⟨P5, ρ5, L5, s5.trans s6, q5⟩, rt⟩
    · have e : i = ds.length := by omega
      subst e
      rw [List.drop_length] at q2
      exact .inl ⟨ystop (Nat.le_refl _), n P2 ρ2 σ2 H2 L2 (s1.trans s2) q2⟩⟩
end
end DL
namespace DL
open PySem PySem.Spec PyProof.Rows L2
/-! ### one's own list is changed -/
section
variable {F : Fr} {P P' : AS} {ρ ρ' : Ev} {σ σ' : St} {H H' : Hp} {d : D} {v : V}
theorem Lk.updow (L : Lk F P ρ σ H) {i : Nat} {xs ys : List D} {a : Addr} {ws : List V} (e : ρ.sl[i]? = some (.ow xs)) (ea : σ[i]? = some (some (.ref a))) (r : Rels F.S P (hide H (Off F P ρ σ)) ys ws) :
    Lk F P (ρ.put i (.ow ys)) σ (upd H a (.lst ws)) ∧ (∀ b o, hide H (Off F P ρ σ) b = some o → hide (upd H a (.lst ws)) (Off F P (ρ.put i (.ow ys)) σ) b = some o) := by
  obtain ⟨a', vs, h1, h2, h3, h4, h5⟩ := L.val i _ e
  rw [ea] at h1
  injection h1 with h1; injection h1 with h1; injection h1 with h1
  subst h1
  have oa : Off F P ρ σ a := .inr (.inr ⟨i, _, e, rfl, ea⟩)
  have off : Off F P (ρ.put i (.ow ys)) σ = Off F P ρ σ := by
    funext b
    refine propext ⟨?_, ?_⟩
    · rintro (z | z | ⟨j, t, g1, g2, g3⟩)
      · exact .inl z
      · exact .inr (.inl z)
      · rcases get_set (show (ρ.sl.set i (.ow ys))[j]? = some t from g1) with ⟨q1, q2⟩ | ⟨q1, q2⟩
        · subst q1
          exact .inr (.inr ⟨j, _, e, rfl, g3⟩)
        · exact .inr (.inr ⟨j, t, q2, g2, g3⟩)
    · rintro (z | z | ⟨j, t, g1, g2, g3⟩)
      · exact .inl z
      · exact .inr (.inl z)
      · by_cases q : j = i
        · subst q
          exact .inr (.inr ⟨j, .ow ys, List.getElem?_set_self (List.getElem?_eq_some_iff.mp e).1, rfl, g3⟩)
        · exact .inr (.inr ⟨j, t, by show (ρ.sl.set i (.ow ys))[j]? = _; rw [List.getElem?_set_ne (Ne.symm q)]; exact g1, g2, g3⟩)
  have hid : ∀ b o, hide H (Off F P ρ σ) b = some o → hide (upd H a (.lst ws)) (Off F P (ρ.put i (.ow ys)) σ) b = some o := fun b o h => by
    obtain ⟨q1, q2⟩ := hide_some.mp h
    rw [off]
    exact hide_some.mpr ⟨q1, by rw [upd_ne (fun z => q1 (by rw [z]; exact oa))]; exact q2⟩
  have na : ∀ {b : Addr}, b ≠ a → upd H a (.lst ws) b = H b := fun z => upd_ne z
  refine ⟨⟨by simpa [Ev.put] using L.len, L.bp, fun b z => ?_, L.m0, L.pp, fun b z => ?_, L.pf, L.cap, fun b o z np nm => ?_, fun b z => ?_, fun j t h => ?_, fun j j' t t' b g1 g2 o1 o2 e1 e2 => ?_⟩, hid⟩
  · by_cases q : b = a
    · exact ⟨_, by rw [q]; exact upd_same⟩
    · rw [na q]; exact L.b0 b z
  · obtain ⟨c, cs, k, rr, q1, q2, q3⟩ := L.pn b z
    exact ⟨c, cs, k, rr, by rw [na (fun q => h4 (by rw [← q]; exact z))]; exact q1, hid _ _ q2, q3⟩
  · have ne : b ≠ a := fun q => by
      rcases h3.1 with w | w
      · rw [q, w.1] at z; cases z
      · exact nm (by rw [q]; exact w)
    rw [na ne]
    exact L.keep b o z np nm
  · by_cases q : b = a
    · exact ⟨_, by rw [q]; exact upd_same⟩
    · rw [na q]; exact L.mt b z
  · rcases get_set (show (ρ.sl.set i (.ow ys))[j]? = some t from h) with ⟨q1, q2⟩ | ⟨q1, q2⟩
    · subst q1 q2
      exact ⟨a, ws, ea, upd_same, h3, h4, r.mono hid fun _ z => z⟩
    · have q := L.val j t q2
      have apart : ∀ {b : Addr}, t.owns = true → σ[j]? = some (some (.ref b)) → b ≠ a := fun o w z => by
        subst z
        exact q1 (L.apart j i t _ _ q2 e o rfl w ea)
      cases t with
      | un => trivial
      | sh d' =>
        obtain ⟨u, w1, w2⟩ := q
        exact ⟨u, w1, w2.mono hid fun _ z => z⟩
      | ow zs =>
        obtain ⟨b, us, w1, w2, w3, w4, w5⟩ := q
        exact ⟨b, us, w1, by rw [na (apart rfl w1)]; exact w2, w3, w4, w5.mono hid fun _ z => z⟩
      | sf c fs =>
        obtain ⟨b, dx, us, w1, w2, w3, w4, w5, w6⟩ := q
        exact ⟨b, dx, us, w1, by rw [na (apart rfl w1)]; exact w2, w3, w4, w5, w6.mono hid fun _ z => z⟩
  · have old : ∀ {j : Nat} {t : Slot}, (ρ.put i (.ow ys)).sl[j]? = some t → t.owns = true → ∃ t', ρ.sl[j]? = some t' ∧ t'.owns = true := fun {j t} h o => by
      rcases get_set (show (ρ.sl.set i (.ow ys))[j]? = some t from h) with ⟨q1, q2⟩ | ⟨q1, q2⟩
      · subst q1
        exact ⟨_, e, rfl⟩
      · exact ⟨t, q2, o⟩
    obtain ⟨u, x1, x2⟩ := old g1 o1
    obtain ⟨u', y1, y2⟩ := old g2 o2
    exact L.apart j j' u u' b x1 y1 x2 y2 e1 e2
/-- x[i] = e -/
@[irreducible] def dPut (xs : List D) (k : Int) (d : D) (Q : List D → Prop) : Prop := ∃ j, ixN xs.length k = some j ∧ Q (xs.set j d)
theorem dPut_i {xs : List D} {k : Int} {d : D} {Q : List D → Prop} {j : Nat} (h : ixN xs.length k = some j) (q : Q (xs.set j d)) : dPut xs k d Q := by unfold dPut; exact ⟨j, h, q⟩
theorem dPut_inv {xs : List D} {k : Int} {d : D} {Q : List D → Prop} (h : dPut xs k d Q) : ∃ j, ixN xs.length k = some j ∧ Q (xs.set j d) := by unfold dPut at h; exact h
theorem dPut_nat {xs : List D} {k : Nat} {d : D} {Q : List D → Prop} (h : k < xs.length) (q : Q (xs.set k d)) : dPut xs (k : Int) d Q := dPut_i (by unfold ixN; simp [h]) q
theorem dPut_0 {xs : List D} {x d : D} {Q : List D → Prop} (q : Q (d :: xs)) : dPut (x :: xs) 0 d Q := dPut_nat (k := 0) (by simp) q
theorem dPut_1 {xs : List D} {x y d : D} {Q : List D → Prop} (q : Q (x :: d :: xs)) : dPut (x :: y :: xs) 1 d Q := dPut_nat (k := 1) (by simp) q
theorem dPut_2 {xs : List D} {x y z d : D} {Q : List D → Prop} (q : Q (x :: y :: d :: xs)) : dPut (x :: y :: z :: xs) 2 d Q := dPut_nat (k := 2) (by simp) q
def wSetIx (i : Nat) (ti te : TD) : TDS := fun D ρ => te ρ fun d ρ1 => match ρ1.sl[i]? with
  | some (.ow xs) => ti ρ1 fun y ρ2 => asI y fun k => dPut xs k d fun ys => D.nx (ρ2.put i (.ow ys))
  | _ => False
variable {X : Cx} {pos : Pos}
theorem ds_setix (i : Nat) {x : Str} {a b : Expr} {ti te : TD} {px p2 : Pos} (he : DE X F a te) (hi : DE X F b ti) (hN : X.N[i]? = some x := by rfl) (hv : Vis X.env.scope x := by first | exact Or.inl rfl | exact Or.inr (Or.inl rfl) | exact Or.inr (Or.inr rfl))
    (hd : (x == ("__debug__" : Str)) = false := by decide) (hcd : (x == ("__classdict__" : Str)) = false := by decide)
    (ha : ∀ v, assign (.Subscript (.Name x px) b p2) X.env v = (do
      let ov ← holding [v] (eval (.Name x px) X.env)
      let iv ← holding [v, ov] (eval b X.env)
      standAt p2
      holding [v, ov, iv] (setItem ov iv v)
      release [v, ov, iv] []) := by intro _; rfl)
    (hs : swapsWithSole [.Subscript (.Name x px) b p2] a pos.line X.env = pure false := by rfl) (hw : swappedStores [.Subscript (.Name x px) b p2] a X.env = pure none := by rfl)
    (h1 : (assignEach [.Subscript (.Name x px) b p2] X.env).map (·.2) = [assign (.Subscript (.Name x px) b p2) X.env] := by rfl) :
    DS X F (.Assign [.Subscript (.Name x px) b p2] a pos) (wSetIx i ti te) := (ps_asg he (pg_sub (pe_var hN hv hd hcd) hi set_list ha) hs hw h1).weak fun D σ H ⟨P, ρ, D', L, q, n, _⟩ =>
  ⟨P, ρ, _, L, q, fun d v P1 ρ1 H1 g1 r1 q1 => by
    split at q1
    · rename_i xs hx
      obtain ⟨a, vs, h1, _⟩ := g1.lk.val i _ hx
      refine ⟨.ref a, h1, P1, ρ1, _, g1.lk, q1, fun y w P2 ρ2 H2 g2 r2 q0 => ?_⟩
      obtain ⟨k, e1, q0⟩ := asI_inv q0
      obtain ⟨j, e2, q3⟩ := dPut_inv q0
      have hx2 : ρ2.sl[i]? = some (.ow xs) := by rw [g2.sl]; exact hx
      subst e1
      have r2 : w = V.int k := r2
      subst r2
      obtain ⟨a', vs2, h3, h4, h5, h6, h7⟩ := g2.lk.val i _ hx2
      rw [h1] at h3
      injection h3 with h3; injection h3 with h3; injection h3 with h3
      subst h3
      have rr : Rels F.S P2 (hide H2 (Off F P2 ρ2 σ)) (xs.set j d) (vs2.set j v) := h7.set j (VRs.gr g1.lk r1 g2)
      obtain ⟨L3, hid⟩ := g2.lk.updow hx2 h1 rr
      exact ⟨a, vs2, k, j, rfl, rfl, h4, by rw [h7.length]; exact e2, n P2 _ σ _ L3 ⟨fun z w => g2.pp z (g1.pp z w), fun z o w => hid z o (g2.hid g1.lk z o (g1.hid L z o w))⟩ q3⟩
    · exact q1.elim⟩
end
end DL
namespace DL
open PySem PySem.Spec PyProof.Rows L2
/-! ### list comprehensions -/
def wipeE (sl : List Slot) : List Nat → List Slot
  | [] => sl
  | v :: vs => (wipeE sl vs).set v .un
def noOwn (sl : List Slot) (ws : List Nat) : Bool := ws.all fun i => match sl[i]? with
  | some s => !s.owns
  | none => true
theorem noOwn_iff {sl : List Slot} {ws : List Nat} : noOwn sl ws = true ↔ ∀ j ∈ ws, ∀ s, sl[j]? = some s → s.owns = false := by
  unfold noOwn
  rw [List.all_eq_true]
  constructor
  · intro h j hj s e
    have := h j hj
    rw [e] at this
    simpa using this
  · intro h j hj
    cases e : sl[j]? with
    | none => rfl
    | some s => simp [h j hj s e]
section
variable {F : Fr} {P P' : AS} {ρ ρ' : Ev} {σ σ' : St} {H H' : Hp} {d : D} {v : V}
theorem off_un {i : Nat} (hi : ∀ s, ρ.sl[i]? = some s → s.owns = false) {a : Addr} : Off F P (ρ.put i .un) (σ.set i none) a ↔ Off F P ρ σ a := by
  constructor
  · rintro (h | h | ⟨j, s, h1, h2, h3⟩)
    · exact .inl h
    · exact .inr (.inl h)
    · rcases get_set (show (ρ.sl.set i .un)[j]? = some s from h1) with ⟨_, e⟩ | ⟨e1, e2⟩
      · subst e; cases h2
      · rw [List.getElem?_set_ne (Ne.symm e1)] at h3
        exact .inr (.inr ⟨j, s, e2, h2, h3⟩)
  · rintro (h | h | ⟨j, s, h1, h2, h3⟩)
    · exact .inl h
    · exact .inr (.inl h)
    · have ne : j ≠ i := fun e => by
        subst e
        rw [hi s h1] at h2; cases h2
      exact .inr (.inr ⟨j, s, by show (ρ.sl.set i .un)[j]? = _; rw [List.getElem?_set_ne (Ne.symm ne)]; exact h1, h2, by rw [List.getElem?_set_ne (Ne.symm ne)]; exact h3⟩)
/-- the same names told, the same objects off limits: a link carries over -/
theorem Lk.setun (L : Lk F P ρ σ H) (i : Nat) (hi : ∀ s, ρ.sl[i]? = some s → s.owns = false) : Lk F P (ρ.put i .un) (σ.set i none) H := by
  have off : Off F P (ρ.put i .un) (σ.set i none) = Off F P ρ σ := by funext a; exact propext (off_un hi)
  refine ⟨by simpa [Ev.put] using L.len, L.bp, L.b0, L.m0, L.pp, fun a z => by rw [off]; exact L.pn a z, L.pf, L.cap, L.keep, L.mt, fun j t h => ?_, fun j j' t t' a h1 h2 o1 o2 e1 e2 => ?_⟩
  · rcases get_set (show (ρ.sl.set i .un)[j]? = some t from h) with ⟨_, e⟩ | ⟨e1, e2⟩
    · subst e; trivial
    · have q := L.val j t e2
      cases t with
      | un => trivial
      | sh d' =>
        obtain ⟨u, h1, h2⟩ := q
        exact ⟨u, by rw [List.getElem?_set_ne (Ne.symm e1)]; exact h1, by rw [off]; exact h2⟩
      | ow xs =>
        obtain ⟨a, vs, h1, h2, h3, h4, h5⟩ := q
        exact ⟨a, vs, by rw [List.getElem?_set_ne (Ne.symm e1)]; exact h1, h2, h3, h4, by rw [off]; exact h5⟩
      | sf c fs =>
        obtain ⟨a, dx, vs, h1, h2, h3, h4, h5, h6⟩ := q
        exact ⟨a, dx, vs, by rw [List.getElem?_set_ne (Ne.symm e1)]; exact h1, h2, h3, h4, h5, by rw [off]; exact h6⟩
  · rcases get_set (show (ρ.sl.set i .un)[j]? = some t from h1) with ⟨_, e⟩ | ⟨a1, a2⟩
    · subst e; cases o1
    · rcases get_set (show (ρ.sl.set i .un)[j']? = some t' from h2) with ⟨_, e⟩ | ⟨b1, b2⟩
      · subst e; cases o2
      · rw [List.getElem?_set_ne (Ne.symm a1)] at e1
        rw [List.getElem?_set_ne (Ne.symm b1)] at e2
        exact L.apart j j' t t' a a2 b2 o1 o2 e1 e2
theorem wipe_all (L : Lk F P ρ σ H) : ∀ {ws : List Nat}, (∀ j ∈ ws, ∀ s, ρ.sl[j]? = some s → s.owns = false) → Lk F P ⟨ρ.bud, wipeE ρ.sl ws⟩ (wipe σ ws) H ∧ (∀ a, Off F P ⟨ρ.bud, wipeE ρ.sl ws⟩ (wipe σ ws) a ↔ Off F P ρ σ a) ∧ (∀ (j : Nat) (s : Slot), (wipeE ρ.sl ws)[j]? = some s → s.owns = true → ρ.sl[j]? = some s)
  | [], _ => ⟨L, fun _ => Iff.rfl, fun _ _ h _ => h⟩
  | w :: ws, h => by
    obtain ⟨L1, o1, k1⟩ := wipe_all L (ws := ws) fun j hj => h j (List.mem_cons_of_mem _ hj)
    have hw : ∀ s, (wipeE ρ.sl ws)[w]? = some s → s.owns = false := fun s e => by
      cases o : s.owns with
      | false => rfl
      | true => rw [h w (by simp) s (k1 w s e o)] at o; cases o
    refine ⟨L1.setun (ρ := ⟨ρ.bud, wipeE ρ.sl ws⟩) w hw, fun a => (off_un (ρ := ⟨ρ.bud, wipeE ρ.sl ws⟩) hw).trans (o1 a), fun j s e o => ?_⟩
    rcases get_set (show ((wipeE ρ.sl ws).set w .un)[j]? = some s from e) with ⟨_, e2⟩ | ⟨_, e2⟩
    · subst e2; cases o
    · exact k1 j s e2 o
theorem wipe_wipe : ∀ {ws : List Nat} {σ : St}, wipe (wipe σ ws) ws = wipe σ ws := by
  have c : ∀ (i : Nat) (ws : List Nat) (σ : St), wipe (σ.set i none) ws = (wipe σ ws).set i none := fun i ws => by
    induction ws with
    | nil => intro σ; rfl
    | cons w ws ih =>
      intro σ
      unfold wipe
      rw [ih]
      by_cases e : i = w
      · subst e; rfl
      · rw [List.set_comm _ _ e]
  intro ws
  induction ws with
  | nil => intro σ; rfl
  | cons w ws ih =>
    intro σ
    show (wipe ((wipe σ ws).set w none) ws).set w none = (wipe σ ws).set w none
    rw [c, ih, List.set_set]
/-- with an object more off limits -/
theorem Lk.mask {D : Addr} {o : HO} (L : Lk F P ρ σ (hide H (· = D))) (h : H D = some o) : Lk { F with B0 := fun a => F.B0 a ∨ a = D } P ρ σ H ∧ (∀ a, Off { F with B0 := fun a => F.B0 a ∨ a = D } P ρ σ a ↔ Off F P ρ σ a ∨ a = D) ∧
    (∀ a o, hide (hide H (· = D)) (Off F P ρ σ) a = some o ↔ hide H (Off { F with B0 := fun a => F.B0 a ∨ a = D } P ρ σ) a = some o) := by
  have off : ∀ a, Off { F with B0 := fun a => F.B0 a ∨ a = D } P ρ σ a ↔ Off F P ρ σ a ∨ a = D := fun a => by
    unfold Off
    constructor
    · rintro ((h | h) | h | h)
      · exact .inl (.inl h)
      · exact .inr h
      · exact .inl (.inr (.inl h))
      · exact .inl (.inr (.inr h))
    · rintro ((h | h | h) | h)
      · exact .inl (.inl h)
      · exact .inr (.inl h)
      · exact .inr (.inr h)
      · exact .inl (.inr h)
  have un : ∀ {a o}, hide H (· = D) a = some o → a ≠ D ∧ H a = some o := fun e => by
    obtain ⟨e1, e2⟩ := hide_some.mp e
    exact ⟨e1, e2⟩
  have hid : ∀ a o, hide (hide H (· = D)) (Off F P ρ σ) a = some o ↔ hide H (Off { F with B0 := fun a => F.B0 a ∨ a = D } P ρ σ) a = some o := fun a o => by
    rw [hide_some, hide_some, hide_some, off]
    constructor
    · rintro ⟨h1, h2, h3⟩
      exact ⟨fun z => z.elim h1 h2, h3⟩
    · rintro ⟨h1, h3⟩
      exact ⟨fun z => h1 (.inl z), fun z => h1 (.inr z), h3⟩
  refine ⟨⟨L.len, fun a z => .inl (L.bp a z), fun a z => ?_, L.m0, L.pp, fun a z => (L.pn a z).keep (fun b u e => (un e).2) fun b u e => (hid b u).mp e, L.pf, L.cap, fun a u e np nm => (un (L.keep a u e np nm)).2, fun a m => ?_, fun j t e => ?_, L.apart⟩, off, hid⟩
  · rcases z with z | z
    · obtain ⟨u, e⟩ := L.b0 a z
      exact ⟨u, (un e).2⟩
    · exact ⟨o, by rw [z]; exact h⟩
  · obtain ⟨u, e⟩ := L.mt a m
    exact ⟨u, (un e).2⟩
  · have q := L.val j t e
    cases t with
    | un => trivial
    | sh d' =>
      obtain ⟨u, h1, h2⟩ := q
      exact ⟨u, h1, h2.mono (fun b o e => (hid b o).mp e) fun _ z => z⟩
    | ow xs =>
      obtain ⟨a, vs, h1, h2, h3, h4, h5⟩ := q
      exact ⟨a, vs, h1, (un h2).2, ⟨h3.1, fun z => z.elim h3.2 (un h2).1⟩, h4, h5.mono (fun b o e => (hid b o).mp e) fun _ z => z⟩
    | sf c fs =>
      obtain ⟨a, dx, vs, h1, h2, h3, h4, h5, h6⟩ := q
      exact ⟨a, dx, vs, h1, (un h2).2, h3, h4, h5, h6.mono (fun b o e => (hid b o).mp e) fun _ z => z⟩
end
def lcL0 (g : TDg) (tt : TDt) (te : TD) (ws : List Nat) (sl : List Slot) (Q : List D → Nat → Prop) : List D → List D → Nat → Prop
  | [], acc, b => Q acc b
  | x :: xs, acc, b => g x ⟨b, wipeE sl ws⟩ fun ρ1 => tt ρ1 fun k ρ2 => dIte k (te ρ2 fun y ρ3 => acc.length < SZ ∧ lcL0 g tt te ws sl Q xs (acc ++ [y]) ρ3.bud) (lcL0 g tt te ws sl Q xs acc ρ2.bud)
@[irreducible] def lcL (g : TDg) (tt : TDt) (te : TD) (ws : List Nat) (sl : List Slot) (Q : List D → Nat → Prop) (xs acc : List D) (b : Nat) : Prop := lcL0 g tt te ws sl Q xs acc b
theorem lcL_out {g : TDg} {tt : TDt} {te : TD} {ws : List Nat} {sl : List Slot} {Q : List D → Nat → Prop} {xs acc : List D} {b : Nat} (h : lcL g tt te ws sl Q xs acc b) : lcL0 g tt te ws sl Q xs acc b := by unfold lcL at h; exact h
theorem lcL_of {g : TDg} {tt : TDt} {te : TD} {ws : List Nat} {sl : List Slot} {Q : List D → Nat → Prop} {xs acc : List D} {b : Nat} (h : lcL0 g tt te ws sl Q xs acc b) : lcL g tt te ws sl Q xs acc b := by unfold lcL; exact h
def wLc (wi : TDi) (g : TDg) (tt : TDt) (te : TD) (ws : List Nat) : TD := fun ρ Q => wi ρ fun ds ρ1 => noOwn ρ1.sl ws = true ∧ lcL g tt te ws ρ1.sl (fun acc b => Q (.lst acc) ⟨b, ρ1.sl⟩) ds [] ρ1.bud
def wYes : TDt := fun ρ Q => Q true ρ
abbrev Fr.off (F : Fr) (B : AS) : Fr := { F with B0 := B }
section
variable {X : Cx} {F : Fr} {pos : Pos} {tg iter elt : Expr} {ifs : List Expr} {scope : Scope} {own : List (Str × Nat)} {wi : TDi} {g : TDg} {tt : TDt} {te : TD} {js : List Nat}
theorem dts_nil : PTs X [] (upT F wYes) := ⟨fun pins s σ H Q I ⟨P, ρ, Q', L, q, k⟩ => pts_nil.run pins s σ H Q I (k true P ρ H L.gr q)⟩
theorem dts_one {c : Expr} {t : TDt} (h : DT X F c t) : PTs X [c] (upT F t) := pts_one h
theorem lc_up (hjs : ∀ j ∈ js, j ∈ own.map (·.2)) : ∀ σ H Q, up Rf F (wLc wi g tt te (own.map (·.2))) σ H Q →
    tLc (upI F wi) (fun v σ H Q => ∃ B, upG (F.off B) js g v σ H Q) (fun σ H Q => ∃ B, upT (F.off B) tt σ H Q) (fun σ H Q => ∃ B, up Rs (F.off B) te σ H Q) (own.map (·.2)) σ H Q := fun σ H Q ⟨P, ρ, Q', L, q, k⟩ => by
  generalize own.map (·.2) = ws at *
  refine ⟨P, ρ, _, L, q, fun ds J P1 ρ1 H1 g1 y ⟨no, q1⟩ D hD => ?_⟩
  have no' := noOwn_iff.mp no
  have L1 := g1.lk
  have e0 : hide (upd H1 D (.lst [])) (· = D) = H1 := by
    funext b
    by_cases hb : b = D
    · rw [hide_in (B := (· = D)) hb, hb, hD]
    · rw [hide_out (B := (· = D)) hb, upd_ne hb]
  refine ⟨fun i m H2 => m = ds.length - i ∧ i ≤ ds.length ∧ ∃ P2 b acc vs, H2 D = some (.lst vs) ∧ Gr F P1 ρ1 σ H1 P2 ⟨b, ρ1.sl⟩ (hide H2 (· = D)) ∧ Rels F.S P2 (hide (hide H2 (· = D)) (Off F P2 ⟨b, ρ1.sl⟩ σ)) acc vs ∧ lcL0 g tt te ws ρ1.sl (fun acc b => Q' (.lst acc) ⟨b, ρ1.sl⟩) (ds.drop i) acc b,
    ⟨ds.length, by simp, Nat.zero_le _, P1, ρ1.bud, [], [], upd_same, by rw [e0]; exact L1.gr, rfl, lcL_out q1⟩, ?_⟩
  rintro i m H2 ⟨rfl, hi, P2, b, acc, vs, h2, g2, ra, q2⟩
  obtain ⟨M2, off2, hid2⟩ := g2.lk.mask h2
  have hD1 : ∀ a o, H1 a = some o → a ≠ D := fun a o e z => by rw [z, hD] at e; cases e
  obtain ⟨ystop, ygo⟩ := y (F.off fun a => F.B0 a ∨ a = D) P2 ⟨b, ρ1.sl⟩ σ H2 i rfl M2 g2.pp fun a o e => (hid2 a o).mp (g2.hid L1 a o e)
  by_cases hl : i < ds.length
  · have hx : ds[i]? = some ds[i] := by simp [hl]
    obtain ⟨hgo, hy⟩ := ygo _ hx
    rw [drop_at hx] at q2
    refine .inr ⟨hgo, fun H3 => ∃ P2 b acc vs, H3 D = some (.lst vs) ∧ Gr F P1 ρ1 σ H1 P2 ⟨b, ρ1.sl⟩ (hide H3 (· = D)) ∧ Rels F.S P2 (hide (hide H3 (· = D)) (Off F P2 ⟨b, ρ1.sl⟩ σ)) acc vs ∧ lcL0 g tt te ws ρ1.sl (fun acc b => Q' (.lst acc) ⟨b, ρ1.sl⟩) (ds.drop (i + 1)) acc b, fun H3 w => ⟨ds.length - (i + 1), by omega, rfl, hl, w⟩, fun x H3 yx => ?_⟩
    obtain ⟨g3, r3⟩ := hy x H3 yx
    obtain ⟨Lw, offw, _⟩ := wipe_all g3.lk (ws := ws) no'
    have offE : Off (F.off fun a => F.B0 a ∨ a = D) P2 ⟨b, wipeE ρ1.sl ws⟩ (wipe σ ws) = Off (F.off fun a => F.B0 a ∨ a = D) P2 ⟨b, ρ1.sl⟩ σ := by
      funext a
      exact propext (offw a)
    refine ⟨_, P2, ⟨b, wipeE ρ1.sl ws⟩, _, _, Lw, (show VRs _ _ _ _ _ _ _ from by
      show Rel _ _ (hide _ _) _ _
      rw [offE]; exact r3), q2, fun ρ4 σ4 L4 s4 w4 q4 => ⟨by rw [w4.wp ws hjs, wipe_wipe], ?_⟩⟩
    have nP2 : ¬ P2 D := fun z => by
      obtain ⟨c, cs, kk, r, e, _⟩ := g2.lk.pn D z
      exact (hide_some.mp e).1 rfl
    have h3 : H3 D = some (.lst vs) := g3.kp D _ h2 nP2
    -- from a later state of the block, back to the def's own names
    have home : ∀ {P5 : AS} {ρ5 : Ev} {H5 : Hp}, Gr (F.off fun a => F.B0 a ∨ a = D) P2 ρ4 σ4 H3 P5 ρ5 H5 → H5 D = some (.lst vs) ∧ Gr F P1 ρ1 σ H1 P5 ⟨ρ5.bud, ρ1.sl⟩ (hide H5 (· = D)) ∧ Rels F.S P5 (hide (hide H5 (· = D)) (Off F P5 ⟨ρ5.bud, ρ1.sl⟩ σ)) acc vs ∧
        (∀ d v, VRs (F.off fun a => F.B0 a ∨ a = D) P5 ρ5 σ4 H5 d v → Rel F.S P5 (hide (hide H5 (· = D)) (Off F P5 ⟨ρ5.bud, ρ1.sl⟩ σ)) d v) := fun {P5 ρ5 H5} g5 => by
      have h5 : H5 D = some (.lst vs) := g5.kp D _ h3 nP2
      have kp : ∀ a o, hide H2 (· = D) a = some o → ¬ P2 a → hide H5 (· = D) a = some o := fun a o e np => by
        obtain ⟨e1, e2⟩ := hide_some.mp e
        exact hide_some.mpr ⟨e1, g5.kp a o (g3.kp a o e2 np) np⟩
      have pf : ∀ a, P5 a → P2 a ∨ hide H2 (· = D) a = none := fun a z => by
        rcases g5.pf a z with z | z
        · exact .inl z
        · by_cases np : P2 a
          · exact .inl np
          · right
            cases e : hide H2 (· = D) a with
            | none => rfl
            | some o =>
              obtain ⟨e1, e2⟩ := hide_some.mp e
              rw [g3.kp a o e2 np] at z; cases z
      have nP5 : ¬ P5 D := fun z => by
        rcases pf D z with z | z
        · exact nP2 z
        · rcases g5.pf D ‹_› with z | z
          · exact nP2 z
          · rw [h3] at z; cases z
      -- off limits in the block: at least what is off limits outside
      have offs : ∀ a, Off F P5 ⟨ρ5.bud, ρ1.sl⟩ σ a ∨ a = D → Off (F.off fun a => F.B0 a ∨ a = D) P5 ρ5 σ4 a := fun a z => by
        rw [g5.off L4]
        have old : Off (F.off fun a => F.B0 a ∨ a = D) P2 ⟨b, ρ1.sl⟩ σ a → Off (F.off fun a => F.B0 a ∨ a = D) P2 ρ4 σ4 a := fun z => by
          refine w4.of (fun j hj s e => ?_) a ((offw a).mpr z)
          obtain ⟨_, _, kk⟩ := wipe_all g3.lk (ws := ws) no'
          cases o : s.owns with
          | false => rfl
          | true =>
            have := no' j (hjs j hj) s (kk j s e o)
            rw [o] at this; cases this
        rcases z with (z | z | z) | z
        · exact .inl (old (.inl (.inl z)))
        · exact .inr z
        · exact .inl (old (.inr (.inr z)))
        · exact .inl (old (.inl (.inr z)))
      have hidB : ∀ a o, hide H5 (Off (F.off fun a => F.B0 a ∨ a = D) P5 ρ5 σ4) a = some o → hide (hide H5 (· = D)) (Off F P5 ⟨ρ5.bud, ρ1.sl⟩ σ) a = some o := fun a o e => by
        obtain ⟨e1, e2⟩ := hide_some.mp e
        exact hide_some.mpr ⟨fun z => e1 (offs a (.inl z)), hide_some.mpr ⟨fun z => e1 (offs a (.inr z)), e2⟩⟩
      have bd : ρ5.bud ≤ b := by
        have h := g5.bd
        rw [w4.bd] at h
        exact h
      have gg : Gr F P2 ⟨b, ρ1.sl⟩ σ (hide H2 (· = D)) P5 ⟨ρ5.bud, ρ1.sl⟩ (hide H5 (· = D)) := by
        refine g2.lk.grow (ρ' := ⟨ρ5.bud, ρ1.sl⟩) g5.pp pf rfl bd kp fun a z => ?_
        obtain ⟨c, cs, kk, r, e1, e2, e3⟩ := g5.lk.pn a z
        exact ⟨c, cs, kk, r, hide_some.mpr ⟨fun e => nP5 (by rw [← e]; exact z), e1⟩, hidB _ _ e2, e3⟩
      exact ⟨h5, g2.trans L1 gg, ra.mono (gg.hid g2.lk) gg.pp, fun d v r => Rel.mono hidB (fun _ z => z) d v r⟩
    refine ⟨_, P2, ρ4, _, L4, q4, fun kk P5 ρ5 H5 g5 q5 => ?_⟩
    cases kk with
    | false =>
      refine iteF ?_
      obtain ⟨h5, gg, rr, _⟩ := home g5
      exact ⟨P5, ρ5.bud, acc, vs, h5, gg, rr, by simpa using q5⟩
    | true =>
      refine iteT ⟨_, P5, ρ5, _, g5.lk, by simpa using q5, fun z v P6 ρ6 H6 g6 r6 q6 => ?_⟩
      obtain ⟨h6, gg, rr, rel⟩ := home (g5.trans L4 g6)
      refine ⟨vs, h6, by rw [rr.length]; exact sz_lt (Nat.le_of_lt q6.1), P6, ρ6.bud, acc ++ [z], vs ++ [v], upd_same, ?_, ?_, q6.2⟩
      · have e : hide (upd H6 D (.lst (vs ++ [v]))) (· = D) = hide H6 (· = D) := by
          funext a
          by_cases ha : a = D
          · rw [hide_in (B := (· = D)) ha, hide_in (B := (· = D)) ha]
          · rw [hide_out (B := (· = D)) ha, hide_out (B := (· = D)) ha, upd_ne ha]
        rw [e]; exact gg
      · have e : hide (upd H6 D (.lst (vs ++ [v]))) (· = D) = hide H6 (· = D) := by
          funext a
          by_cases ha : a = D
          · rw [hide_in (B := (· = D)) ha, hide_in (B := (· = D)) ha]
          · rw [hide_out (B := (· = D)) ha, hide_out (B := (· = D)) ha, upd_ne ha]
        rw [e]; exact rr.append (.one (rel z v r6))
  · have e : i = ds.length := by omega
    subst e
    rw [List.drop_length] at q2
    refine .inl ⟨ystop (Nat.le_refl _), k (.lst acc) (.ref D) P2 ⟨b, ρ1.sl⟩ H2 ?_ ?_ q2⟩
    · have g4 := g1.trans L g2
      have e2 : H2 = upd (hide H2 (· = D)) D (.lst vs) := by
        funext a
        by_cases ha : a = D
        · rw [ha, upd_same, h2]
        · rw [upd_ne ha, hide_out (B := (· = D)) ha]
      rw [e2]
      exact g4.trans L (g2.lk.new (hide_in (B := (· = D)) rfl))
    · refine ⟨acc, D, vs, hide H2 (· = D), rfl, rfl, ?_, hide_in (B := (· = D)) rfl, g1.trans L g2, ra⟩
      funext a
      by_cases ha : a = D
      · rw [ha, upd_same, h2]
      · rw [upd_ne ha, hide_out (B := (· = D)) ha]
theorem df_lc (hc : X.calm = true) (hN : X.N.Nodup) (hi : DI X F tg iter wi) (ok : BlkOk X.N X.env.scope scope own) (hjs : ∀ j ∈ js, j ∈ own.map (·.2))
    (hg : ∀ (s : Shared) (H : Hp) (C : Addr) (cl : List (Str × Addr)) (fp : List Addr) (B : AS), DG (X.blk s H scope (compEnvC scope cl C X.env) fp) (F.off B) tg js g)
    (ht : ∀ (s : Shared) (H : Hp) (C : Addr) (cl : List (Str × Addr)) (fp : List Addr) (B : AS), PTs (X.blk s H scope (compEnvC scope cl C X.env) fp) ifs (upT (F.off B) tt))
    (he : ∀ (s : Shared) (H : Hp) (C : Addr) (cl : List (Str × Addr)) (fp : List Addr) (B : AS), DE (X.blk s H scope (compEnvC scope cl C X.env) fp) (F.off B) elt te) (hs : ∀ x, foldedSetIterable iter X.env x = pure x := by intro _; rfl) :
    DF X F (.ListComp elt [⟨tg, iter, ifs, 0⟩] scope pos) (wLc wi g tt te (own.map (·.2))) :=
  (pe_lc (g := fun v σ H Q => ∃ B, upG (F.off B) js g v σ H Q) (tt := fun σ H Q => ∃ B, upT (F.off B) tt σ H Q) (te := fun σ H Q => ∃ B, up Rs (F.off B) te σ H Q) hc hN hi ok
    (fun s H C cl fp => ⟨fun pins s' σ H' v u Q I r ⟨B, q⟩ => (hg s H C cl fp B).run pins s' σ H' v u Q I r q⟩)
    (fun s H C cl fp => ⟨fun pins s' σ H' Q I ⟨B, q⟩ => (ht s H C cl fp B).run pins s' σ H' Q I q⟩)
    (fun s H C cl fp => ⟨fun pins s' σ H' Q I ⟨B, q⟩ => (he s H C cl fp B).run pins s' σ H' Q I q⟩) hs).weak fun σ H Q q => lc_up hjs σ H Q q
end
end DL
namespace DL
open PySem PySem.Spec PyProof.Rows L2
/-! ### defs: a promise over plain data -/
structure Ex where
  c : Nat
  fs : List D
/-- how many arguments, how many draws at most, what it does -/
structure DSp where
  np : Nat
  cost : Nat
  run : List D → (D → Prop) → (Ex → Prop) → Prop
def ExRel (S : Sg) (P : AS) (H : Hp) (x : Ex) (cls : Value) (d : Option Addr) : Prop := cls = .ref (S.ct x.c) ∧ ∃ (dd : Addr) (vs : List V), d = some dd ∧ H dd = some (.xd ((S.fn x.c).zip vs)) ∧ (S.fn x.c).length = vs.length ∧ Rels S P H x.fs vs
theorem ExRel.mono {S : Sg} {P P' : AS} {H H' : Hp} {x : Ex} {cls : Value} {d : Option Addr} (r : ExRel S P H x cls d) (h : ∀ a o, H a = some o → H' a = some o) (p : ∀ a, P a → P' a) : ExRel S P' H' x cls d := by
  obtain ⟨e, dd, vs, e2, h1, l, r⟩ := r
  exact ⟨e, dd, vs, e2, h _ _ h1, l, r.mono h p⟩
/-- behind a call -/
structure Aft (B P : AS) (H : Hp) (n : Nat) (P' : AS) (H' : Hp) : Prop where
  pp : ∀ a, P a → P' a
  pf : ∀ a, P' a → P a ∨ H a = none
  pn : ∀ a, P' a → PenAt H' (hide H' fun a => B a ∨ P' a) a n
  kp : ∀ a o, H a = some o → ¬ P a → H' a = some o
def spOf (S : Sg) (sp : DSp) : Sp := fun vs H Q E => ∃ (B P : AS) (n : Nat) (ds : List D) (Q' : D → Prop) (E' : Ex → Prop), (∀ a, P a → B a) ∧ (∀ a, B a → ∃ o, H a = some o) ∧ (∀ a, P a → PenAt H (hide H B) a n) ∧ n + sp.cost ≤ LIM ∧ Rels S P (hide H B) ds vs ∧ ds.length = sp.np ∧ sp.run ds Q' E' ∧
  (∀ d v P' H', Aft B P H (n + sp.cost) P' H' → Rel S P' (hide H' fun a => B a ∨ P' a) d v → Q' d → Q v H') ∧
  ∀ x cls d P' H', Aft B P H (n + sp.cost) P' H' → ExRel S P' (hide H' fun a => B a ∨ P' a) x cls d → E' x → E cls d H'
/-- as FnOk, and no repr runs around -/
structure FnG (P : Program) (w : World) (K : PySem.W.Frag) (mg : Str → Option Value) (base : Heap) (k : Nat) (f : Addr) (fd : FuncData) (ps : List Str) (sp : Sp) : Prop where
  len : ∀ vs H Q E, sp vs H Q E → vs.length = ps.length
  run : ∀ (A : Around) (outer : List Env) (s : Shared) (H : Hp) (args : Args) (us : List Value) (vs : List V) (Q : VK) (E : XK), Room k A → A.guards = some [] → Env0 P w K mg base A outer s H → BindsTo s fd args (ps.zip us) → Vals vs us →
    sp vs H Q E → codeAny (model P w) A (.call (.ref f) args) (CR (L2.CX P w) outer P w H s Q E) s
section
variable {P : Program} {w : World} {K : PySem.W.Frag} {mg : Str → Option Value} {base : Heap}
theorem FnG.of {k : Nat} {f : Addr} {fd : FuncData} {ps : List Str} {sp : Sp} (h : FnOk P w K mg base (L2.CX P w) k f fd ps sp) : FnG P w K mg base k f fd ps sp := ⟨h.len, fun A o s H ar us vs Q E r _ => h.run A o s H ar us vs Q E r⟩
theorem FnG.mono {j k : Nat} {f : Addr} {fd : FuncData} {ps : List Str} {sp : Sp} (h : FnG P w K mg base j f fd ps sp) (l : j ≤ k) : FnG P w K mg base k f fd ps sp := ⟨h.len, fun A o s H ar us vs Q E r => h.run A o s H ar us vs Q E (r.mono l)⟩
/-- a def by its body -/
theorem fng_of {x qual : Str} {st : Stmt} {f : Addr} {fd : FuncData} {N ps : List Str} {k : Nat} {sp : Sp} (F : Fun K x qual st f fd) (S : FnScope N ps (defScope st)) (len : ∀ vs H Q E, sp vs H Q E → vs.length = ps.length)
    (hb : ∀ (cv : Value) (A : Around) (outer : List Env) (s : Shared) (H : Hp) (vs : List V) (Q : VK) (E : XK), Room k (A.deeper (envOfC qual (defScope st) s.heap.objs.size f cv)) → A.guards = some [] → sp vs H Q E →
      ∃ t, PSs (cxOf (L2.CX P w) P w K mg base N qual (defScope st) f cv A outer s H E) (defBody st) t ∧ t { nx := fun _ H' => Q .non H', rt := Q } (L2.start N vs) H) : FnG P w K mg base (k + 1) f fd ps sp := by
  obtain ⟨oc, od, kV, doc, pm, an, cv, ct, osl, e, look, code⟩ := F.ex
  subst e
  refine ⟨len, fun A outer s H args us vs Q E room gu ent bnd rel hsp => ?_⟩
  have hl := len _ _ _ _ hsp
  have stay : ∀ b o, base.get? b = some o → s.heap.get? b = some o := fun b o q => (ent.bs b o q).1
  have inK : K.In s.heap := ent.mod.kin.keeps stay
  have kinds : ∀ y ∈ ps.zip us, (defScope st).names.lookup y.1 = some .local ∨ ((defScope st).names.lookup y.1 = some .cell ∧ ((cellsFrom (s.heap.objs.size + 1) (defScope st).names []).lookup y.1).isSome = true) := by
    rintro ⟨n, v⟩ hy
    cases S.par n (List.of_mem_zip hy).1 with
    | inl q => exact .inl q
    | inr q => exact .inr ⟨q, PySem.W.cellsFrom_some _ _ _ (.inl q)⟩
  refine codeAny_call_function room.depth (inK _ _ look) rfl S.co S.gen rfl (PySem.W.codeRec_of inK code) (bnd _ _ _ _ ?_)
  refine wpAny_newFunctionEnv_cells S.kind kinds fun env ee s1 ic => ?_
  subst ee
  refine ⟨(ent.mod.nolimit.keeps stay).keeps ic.toInCall.keep, codeAny_func ?_⟩
  obtain ⟨t, ht, q⟩ := hb cv A outer s H vs Q E (room.deeper _) gu hsp
  refine wpAny_mono (ht.run [] s1 (L2.start N vs) H _ (inv_start (CX := L2.CX P w) (E := E) S room.hd ent hl rel ic) q) (fun fl s' end_ => ?_) fun _ _ z => z
  cases fl with
  | ret u =>
    obtain ⟨v, σ', H', J, r, q'⟩ := end_
    exact ⟨v, H', J.os, J.bare, J.base, J.hok, r, q'⟩
  | next =>
    obtain ⟨σ', H', J, q'⟩ := end_
    exact ⟨V.non, H', J.os, J.bare, J.base, J.hok, rfl, q'⟩
  | brk => exact (show False from end_.choose_spec.choose_spec.2).elim
  | cont => exact (show False from end_.choose_spec.choose_spec.2).elim
end
/-- what is wished of an exception -/
def upW (F : Fr) (E : Ex → Ev → Prop) : WX := fun cls d σ H => ∃ P ρ x, Lk F P ρ σ H ∧ ExRel F.S P (hide H (Off F P ρ σ)) x cls d ∧ E x ρ
/-- where a body stands -/
structure Cd (X : Cx) (F : Fr) (E : Ex → Ev → Prop) (k : Nat) : Prop where
  hK : X.K = F.S.K
  calm : X.calm = true
  room : Room k X.A
  gu : X.A.guards = some []
  tk : Takes X (upW F E)
  po : PassesOwn (model X.prog X.w) X.A X.env X.xe
  nd : X.N.Nodup
theorem Cd.units {X : Cx} {F : Fr} {E : Ex → Ev → Prop} {k : Nat} (c : Cd X F E k) : X.A.units + 100 < cLine := by have := c.room.un; omega
theorem Cd.units64 {X : Cx} {F : Fr} {E : Ex → Ev → Prop} {k : Nat} (c : Cd X F E k) : X.A.units + 64 < cLine := by have := c.units; omega
theorem Cd.units70 {X : Cx} {F : Fr} {E : Ex → Ev → Prop} {k : Nat} (c : Cd X F E k) : X.A.units + 70 < cLine := by have := c.units; omega
theorem Cd.units65 {X : Cx} {F : Fr} {E : Ex → Ev → Prop} {k : Nat} (c : Cd X F E k) : X.A.units + 65 < cLine := by have := c.units; omega
abbrev noE : Ex → Ev → Prop := fun _ _ => False
theorem takes_noE {X : Cx} {F : Fr} : Takes X (upW F noE) := takes0.imp fun c d σ H ⟨_, _, _, _, _, z⟩ => z
/-- in a comprehension's block -/
theorem Cd.blk {X : Cx} {F : Fr} {E : Ex → Ev → Prop} {k : Nat} (c : Cd X F E k) (s : Shared) (H : Hp) (scope : Scope) (env : Env) (fp : List Addr) (B : AS) : Cd (X.blk s H scope env fp) (F.off B) noE k :=
  ⟨c.hK, c.calm, c.room, c.gu, takes_noE, PassesOwn.never, c.nd⟩
def startD (N : List Str) (ds : List D) : List Slot := ds.map Slot.sh ++ List.replicate (N.length - ds.length) .un
theorem start_len {N : List Str} {vs : List V} (h : vs.length ≤ N.length) : (L2.start N vs).length = N.length := by
  unfold L2.start
  rw [List.length_append, List.length_map, List.length_replicate]
  omega
theorem startD_sh {N : List Str} {ds : List D} {i : Nat} {s : Slot} (h : (startD N ds)[i]? = some s) : s = .un ∨ ∃ d, ds[i]? = some d ∧ s = .sh d := by
  unfold startD at h
  by_cases hi : i < ds.length
  · rw [List.getElem?_append_left (by simpa using hi), List.getElem?_map] at h
    cases e : ds[i]? with
    | none => rw [e] at h; cases h
    | some d =>
      rw [e] at h
      exact .inr ⟨d, rfl, by simpa using h.symm⟩
  · rw [List.getElem?_append_right (by simpa using hi), List.getElem?_replicate] at h
    split at h
    · exact .inl (by simpa using h.symm)
    · cases h
/-- the entry of a def -/
theorem lk_start {S : Sg} {B P : AS} {H : Hp} {n c : Nat} {N : List Str} {ds : List D} {vs : List V} (h1 : ∀ a, P a → B a) (h2 : ∀ a, B a → ∃ o, H a = some o) (h3 : ∀ a, P a → PenAt H (hide H B) a n) (h4 : n + c ≤ LIM) (r : Rels S P (hide H B) ds vs) (hl : ds.length ≤ N.length) :
    Lk ⟨S, B, P, fun _ => False, H, n + c⟩ P ⟨c, startD N ds⟩ (L2.start N vs) H := by
  have lv := r.length
  have off : Off ⟨S, B, P, fun _ => False, H, n + c⟩ P ⟨c, startD N ds⟩ (L2.start N vs) = B := by
    funext a
    refine propext ⟨?_, fun z => .inl z⟩
    rintro (z | z | ⟨i, s, e1, e2, _⟩)
    · exact z
    · exact h1 a z
    · rcases startD_sh e1 with rfl | ⟨d, _, rfl⟩ <;> cases e2
  refine ⟨?_, h1, h2, fun _ z => z.elim, fun _ z => z, fun a z => ?_, fun _ z => .inl z, ⟨Nat.le_add_left _ _, h4⟩, fun _ _ e _ _ => e, fun _ z => z.elim, fun i s e => ?_, fun i j s t a e1 _ o => ?_⟩
  · show (startD N ds).length = _
    rw [start_len (by omega)]
    unfold startD
    rw [List.length_append, List.length_map, List.length_replicate]
    omega
  · rw [off]
    exact (h3 a z).mono (by show n ≤ n + c - c; omega)
  · rcases startD_sh e with rfl | ⟨d, ed, rfl⟩
    · trivial
    · obtain ⟨v, ev, rv⟩ := r.get ed
      refine ⟨v, ?_, by rw [off]; exact rv⟩
      unfold L2.start
      have hi : i < vs.length := (List.getElem?_eq_some_iff.mp ev).1
      rw [List.getElem?_append_left (by simpa using hi), List.getElem?_map, ev]
      rfl
  · rcases startD_sh e1 with rfl | ⟨d, _, rfl⟩ <;> cases o
abbrev FnD (P : Program) (w : World) (S : Sg) (mg : Str → Option Value) (base : Heap) (k : Nat) (f : Addr) (fd : FuncData) (ps : List Str) (sp : DSp) : Prop := FnG P w S.K mg base k f fd ps (spOf S sp)
/-- THE RULE for a def -/
theorem fnd_of {P : Program} {w : World} {S : Sg} {mg : Str → Option Value} {base : Heap} {x qual : Str} {st : Stmt} {f : Addr} {fd : FuncData} {N ps : List Str} {k : Nat} {sp : DSp} {t : (Ex → Ev → Prop) → TDS} (F : Fun S.K x qual st f fd) (Sc : FnScope N ps (defScope st)) (hn : sp.np = ps.length)
    (hb : ∀ (cv : Value) (A : Around) (outer : List Env) (s : Shared) (H : Hp) (E : XK) (Fr' : Fr) (E' : Ex → Ev → Prop), Fr'.S = S → Cd (cxOf (L2.CX P w) P w S.K mg base N qual (defScope st) f cv A outer s H E) Fr' E' k →
      DSs (cxOf (L2.CX P w) P w S.K mg base N qual (defScope st) f cv A outer s H E) Fr' (defBody st) (t E'))
    (pure_ : ∀ ds Q E, ds.length = sp.np → sp.run ds Q E → t (fun x _ => E x) { nx := fun _ => Q .non, rt := fun d _ => Q d } ⟨sp.cost, startD N ds⟩) : FnD P w S mg base (k + 1) f fd ps sp := by
  have hpl : ps.length ≤ N.length := by have := congrArg List.length Sc.pre; rw [List.length_take] at this; omega
  refine fng_of F Sc (fun vs H Q E ⟨B, P', n, ds, Q', E', _, _, _, _, r, l, _⟩ => by rw [r.length, l, hn]) fun cv A outer s H vs Q E room gu ⟨B, P', n, ds, Q', E', a1, a2, a3, a4, r, l, q, k1, k2⟩ => ?_
  have L := lk_start (N := N) a1 a2 a3 a4 r (by omega)
  generalize hF : (⟨S, B, P', fun _ => False, H, n + sp.cost⟩ : Fr) = Fr' at L
  have hS : Fr'.S = S := by rw [← hF]
  have aft : ∀ {P2 : AS} {ρ2 : Ev} {σ2 : St} {H2 : Hp}, Lk Fr' P2 ρ2 σ2 H2 → Aft B P' H (n + sp.cost) P2 H2 := fun {P2 ρ2 σ2 H2} L2 => by
    subst hF
    exact ⟨L2.pp, L2.pf, fun a z => ((L2.pn a z).mono (Nat.sub_le _ _)).keep (fun _ _ z => z) L2.backH, fun a o e np => L2.keep a o e np fun z => z⟩
  have tk : Takes (cxOf (L2.CX P w) P w S.K mg base N qual (defScope st) f cv A outer s H E) (upW Fr' fun x _ => E' x) := by
    refine Takes.imp (takes_of (E := E) rfl rfl rfl rfl) fun cls d σ2 H2 ⟨P2, ρ2, x, L2, rx, e⟩ => k2 x cls d P2 H2 (aft L2) ?_ e
    subst hF
    exact rx.mono L2.backH fun _ z => z
  have c : Cd (cxOf (L2.CX P w) P w S.K mg base N qual (defScope st) f cv A outer s H E) Fr' (fun x _ => E' x) k := ⟨by rw [hS]; rfl, rfl, room, gu, tk, passes_of rfl, Sc.nd⟩
  refine ⟨_, hb cv A outer s H E Fr' _ hS c, P', ⟨sp.cost, startD N ds⟩, { nx := fun _ => Q' .non, rt := fun d _ => Q' d }, L, pure_ ds Q' E' l q, fun P2 ρ2 σ2 H2 L2 _ q2 => ?_, fun _ _ _ _ _ _ z => z.elim, fun _ _ _ _ _ _ z => z.elim, fun d v P2 ρ2 σ2 H2 L2 r2 q2 => ?_⟩
  · exact k1 .non .non P2 H2 (aft L2) rfl q2
  · refine k1 d v P2 H2 (aft L2) ?_ q2
    have b := L2.back r2
    subst hF
    exact b.rel
/-! ### calls -/
def pick {α : Type} (sel : List Nat) (l : List α) : List α := sel.filterMap fun i => l[i]?
/-- n arguments by place, the others by the names ks, the defaults dus: sel tells which of them each parameter gets -/
def BindN (K : PySem.W.Frag) (fd : FuncData) (ps : List Str) (n : Nat) (ks : List Str) (sel : List Nat) (dus : List Value) : Prop := ∀ (s : Shared) (us ws : List Value), K.In s.heap → us.length = n → ws.length = ks.length → BindsTo s fd ⟨us, ks.zip ws⟩ (ps.zip (pick sel (us ++ ws ++ dus)))
theorem pick_vals {l : List V} {m : List Value} (r : Vals l m) (sel : List Nat) : Vals (pick sel l) (pick sel m) := by
  unfold pick
  induction sel with
  | nil => exact .nil
  | cons i sel ih =>
    rw [List.filterMap_cons, List.filterMap_cons]
    cases e : l[i]? with
    | none => rw [r.none_of e]; exact ih
    | some x =>
      obtain ⟨u, e2, ru⟩ := r.get e
      rw [e2]
      exact .cons ru ih
theorem pick_rels {S : Sg} {P : AS} {H : Hp} {l : List D} {m : List V} (r : Rels S P H l m) (sel : List Nat) : Rels S P H (pick sel l) (pick sel m) := by
  unfold pick
  induction sel with
  | nil => rfl
  | cons i sel ih =>
    rw [List.filterMap_cons, List.filterMap_cons]
    cases e : l[i]? with
    | none =>
      have e2 : m[i]? = none := by
        rw [List.getElem?_eq_none_iff] at e ⊢
        rw [r.length]; exact e
      rw [e2]; exact ih
    | some x =>
      obtain ⟨u, e2, ru⟩ := r.get e
      rw [e2]
      exact ⟨u, _, rfl, ru, ih⟩
/-- a call's reading: the arguments, then the defaults -/
def wCall (sp : DSp) (E : Ex → Ev → Prop) (n : Nat) (sel : List Nat) (dds : List D) (t : TDs) : TD := fun ρ Q => t ρ fun ds ρ1 => ds.length = n ∧ sp.cost ≤ ρ1.bud ∧ (pick sel (ds ++ dds)).length = sp.np ∧ sp.run (pick sel (ds ++ dds)) (fun d => Q d ⟨ρ1.bud - sp.cost, ρ1.sl⟩) fun x => E x ⟨ρ1.bud - sp.cost, ρ1.sl⟩
/-- constants -/
inductive Cst : List D → List V → List Value → Prop
  | nil : Cst [] [] []
  | cons {d : D} {v : V} {u : Value} {ds : List D} {vs : List V} {us : List Value} (h : ∀ S P H, Rel S P H d v) (r : RelV v u) (t : Cst ds vs us) : Cst (d :: ds) (v :: vs) (u :: us)
theorem Cst.rels {S : Sg} {P : AS} {H : Hp} : ∀ {ds : List D} {vs : List V} {us : List Value}, Cst ds vs us → Rels S P H ds vs
  | _, _, _, .nil => rfl
  | _, _, _, .cons h r t => ⟨_, _, rfl, h _ _ _, Cst.rels t⟩
theorem Cst.vals : ∀ {ds : List D} {vs : List V} {us : List Value}, Cst ds vs us → Vals vs us
  | _, _, _, .nil => .nil
  | _, _, _, .cons h r t => .cons r (Cst.vals t)
section
variable {X : Cx} {F : Fr} {E : Ex → Ev → Prop} {k j : Nat} {f : Addr} {fd : FuncData} {ps ks : List Str} {sp : DSp} {n : Nat} {sel : List Nat} {dds : List D} {dvs : List V} {dus : List Value} {x : Str} {p pos : Pos} {e : Expr} {es : List Expr} {kws : List Keyword} {t : TDs}
/-- the callee runs -/
theorem run_call (c : Cd X F E k) (G : FnD X.prog X.w F.S X.mg X.base j f fd ps sp) (hj : j ≤ k) (hb : BindN X.K fd ps n ks sel dus) (hd : Cst dds dvs dus) {pins : List (Addr × Obj)} {P₀ P : AS} {ρ₀ ρ : Ev} {σ : St} {H₀ H : Hp} {s : Shared} {Q : VK} {Q' : D → Ev → Prop} {ds : List D} {vs zs : List V} {us ws : List Value}
    (I : Inv X pins σ H s) (L₀ : Lk F P₀ ρ₀ σ H₀) (g : Gr F P₀ ρ₀ σ H₀ P ρ H) (r : Rels F.S P (hide H (Off F P ρ σ)) ds (vs ++ zs)) (rv : Vals vs us) (rz : Vals zs ws) (ln : us.length = n) (lk : ws.length = ks.length)
    (q1 : sp.cost ≤ ρ.bud) (q2 : (pick sel (ds ++ dds)).length = sp.np) (q3 : sp.run (pick sel (ds ++ dds)) (fun d => Q' d ⟨ρ.bud - sp.cost, ρ.sl⟩) fun x => E x ⟨ρ.bud - sp.cost, ρ.sl⟩)
    (k1 : ∀ d v P' ρ' H', Gr F P₀ ρ₀ σ H₀ P' ρ' H' → Rs F P₀ ρ₀ H₀ σ P' ρ' H' d v → Q' d ρ' → Q v H') : wpAny (model X.prog X.w) X.A (call (.ref f) us (ks.zip ws)) (EP X pins σ Q) X.xe s := by
  have L := g.lk
  have grow : ∀ {P' : AS} {H' : Hp}, Aft (Off F P ρ σ) P H (F.cap - ρ.bud + sp.cost) P' H' → Gr F P ρ σ H P' ⟨ρ.bud - sp.cost, ρ.sl⟩ H' := fun {P' H'} a => by
    refine L.grow a.pp a.pf rfl (Nat.sub_le _ _) a.kp fun b z => ?_
    have e : F.cap - (ρ.bud - sp.cost) = F.cap - ρ.bud + sp.cost := by have := L.cap.1; omega
    show PenAt H' _ b (F.cap - (ρ.bud - sp.cost))
    rw [e]
    refine (a.pn b z).keep (fun _ _ z => z) fun y o w => ?_
    obtain ⟨w1, w2⟩ := hide_some.mp w
    refine hide_some.mpr ⟨fun z => w1 ?_, w2⟩
    rcases z with z | z | z
    · exact .inl (.inl z)
    · exact .inr z
    · exact .inl (.inr (.inr z))
  have hid : ∀ {P' : AS} {H' : Hp} y o, hide H' (fun a => Off F P ρ σ a ∨ P' a) y = some o → hide H' (Off F P' ⟨ρ.bud - sp.cost, ρ.sl⟩ σ) y = some o := fun {P' H'} y o w => by
    obtain ⟨w1, w2⟩ := hide_some.mp w
    refine hide_some.mpr ⟨fun z => w1 ?_, w2⟩
    rcases z with z | z | z
    · exact .inl (.inl z)
    · exact .inr z
    · exact .inl (.inr (.inr z))
  have all : Vals (pick sel (vs ++ zs ++ dvs)) (pick sel (us ++ ws ++ dus)) := pick_vals ((rv.append rz).append hd.vals) sel
  refine wpAny_call (codeAny_mono (G.run X.A X.stack s H ⟨us, ks.zip ws⟩ _ _ Q (fun cls d H' => upW F E cls d σ H') (c.room.mono hj) c.gu (by have := I.env0; rw [c.hK] at this; exact this) (hb s us ws I.kIn ln lk) all ?_) fun r s' hq => ?_)
  · refine ⟨Off F P ρ σ, P, F.cap - ρ.bud, pick sel (ds ++ dds), _, _, fun a z => .inr (.inl z), fun a z => L.off z, fun a z => L.pn a z, ?_, pick_rels (r.append hd.rels) sel, q2, q3, fun d v P' H' a rel q => ?_, fun x cls d P' H' a rel q => ?_⟩
    · have := L.cap; omega
    · exact k1 d v P' _ H' (g.trans L₀ (grow a)) (Rel.mono hid (fun _ z => z) d v rel) q
    · exact ⟨P', _, x, (grow a).lk, rel.mono hid fun _ z => z, q⟩
  · cases r with
    | error ex => exact c.tk _ _ (XE.of_call I (fun cls d H' z => z) hq)
    | ok fl =>
      cases fl with
      | ret u => exact I.after hq
      | next => exact False.elim hq
      | brk => exact False.elim hq
      | cont => exact False.elim hq
/-- f(e, ..) -/
theorem de_call (c : Cd X F E k) (G : FnD X.prog X.w F.S X.mg X.base j f fd ps sp) (hj : j ≤ k) (hm : X.mg x = some (.ref f)) (hk : PySem.W.keepIn X.K (.ref f) = true) (hb : BindN X.K fd ps n [] sel dus) (hd : Cst dds dvs dus) (ha : DAs X F (e :: es) t) 
    (hg : Gl X x := by rfl) (hdb : (x == ("__debug__" : Str)) = false := by decide) (he : starEach (e :: es) X.env = (false, eval e X.env) :: starEach es X.env := by rfl) (hpl : (backTo pos (starEach es X.env)).any (·.1) = false := by rfl) :
    DE X F (.Call (.Name x p) (e :: es) [] pos) (wCall sp E n sel dds t) := by
  refine ⟨fun pins s σ H Q I ⟨P, ρ, Q', L, q, k1⟩ => ?_⟩
  refine wpAny_Call_Name_kw (ld_glob I hg hm ?_ hdb)
  refine PySem.W.callWith_K (h₀ := X.base) I.ok.mod.kin hk (thn (ha.run pos pins s σ H (fun vs H1 => ∃ P1 ρ1 ds, Gr F P ρ σ H P1 ρ1 H1 ∧ RsR VRs F P1 ρ1 σ H1 ds vs ∧ ds.length = n ∧ sp.cost ≤ ρ1.bud ∧ (pick sel (ds ++ dds)).length = sp.np ∧ sp.run (pick sel (ds ++ dds)) (fun d => Q' d ⟨ρ1.bud - sp.cost, ρ1.sl⟩) fun x => E x ⟨ρ1.bud - sp.cost, ρ1.sl⟩) I
    ⟨P, ρ, _, L, q, fun ds vs P1 ρ1 H1 g1 r1 ⟨l, q1, q2, q3⟩ => ⟨P1, ρ1, ds, g1, r1, l, q1, q2, q3⟩⟩) fun us s1 hu => ?_) he hpl
  obtain ⟨vs, H1, I1, rv, P1, ρ1, ds, g1, r1, l, q1, q2, q3⟩ := hu
  refine ⟨I1.kIn, ?_⟩
  rw [List.nil_append]
  have rr := rsR_s r1
  exact run_call (zs := []) (ws := []) c G hj hb hd I1 L g1 (by rw [List.append_nil]; exact rr) rv .nil (by rw [← rv.length, rr.length, l]) rfl q1 q2 q3 k1
end
end DL
namespace DL
open PySem PySem.Spec PyProof.Rows L2
/-! ### the law's end -/
section
variable {P : Program} {w : World} {K : PySem.W.Frag} {mg mb : Str → Option Value}
/-- the heap at the law's entry: nothing is tracked but the script -/
noncomputable def scriptH (K : PySem.W.Frag) (a : Addr) (o : Obj) (ns : List Int) : Hp := open Classical in fun b => if b = a ∧ K.lookup a = none then some (.frz o (.lst (ns.map V.int))) else none
theorem scriptH_some {K : PySem.W.Frag} {a b : Addr} {o : Obj} {ns : List Int} {u : HO} (h : scriptH K a o ns b = some u) : b = a ∧ K.lookup a = none ∧ u = .frz o (.lst (ns.map V.int)) := by
  unfold scriptH at h
  split at h
  · rename_i c
    exact ⟨c.1, c.2, (Option.some.inj h).symm⟩
  · cases h
theorem law_end {k : Nat} {fa a : Addr} {fd : FuncData} {x : Str} {sp : Sp} {s : Shared} {vs : List Value} {ns : List Int} (kin : K.In s.heap) (gl : s.heap.Ns mainGlobals mg) (bl : s.heap.Ns builtinsNs mb) (bb : ∀ x : Str, x ≠ "__name__" → mb x = bootBuiltins x)
    (nl : s.heap.NoLimit) (gens : s.gens = #[]) (obj : s.heap.get? a = some { cls := .type "list", data := .seq vs.toArray }) (ai : IntsAre vs ns) (short : ns.length ≤ sizeLine) (room : Room k callerA)
    (G : ∀ base : Heap, K.In base → base.Ns mainGlobals mg → FnG P w K mg base k fa fd [x] sp) (bind_ : ∀ (s : Shared) (u : Value), BindsTo s fd ⟨[u], []⟩ [(x, u)])
    (promise : ∀ H : Hp, SqL K H a (ns.map V.int) → (∀ b o, H b = some o → b = a) → sp [.ref a] H (fun v _ => v = .bl true) fun _ _ _ => False) :
    codeAny (model P w) callerA (.call (.ref fa) ⟨[.ref a], []⟩) (fun r s' => r = .ok (.ret (.bool true)) ∧ OldK s.heap s'.heap ∧ s'.os = s.os ∧ AllBare s'.gens) s := by
  have rel := vals_ints ai
  obtain ⟨H, eH⟩ : ∃ H, H = scriptH K a { cls := .type "list", data := .seq vs.toArray } ns := ⟨_, rfl⟩
  have what : ∀ {b u}, H b = some u → b = a ∧ K.lookup a = none ∧ u = .frz { cls := .type "list", data := .seq vs.toArray } (.lst (ns.map V.int)) := fun h => by
    rw [eH] at h
    exact scriptH_some h
  have seq : SqL K H a (ns.map V.int) := by
    cases e : K.lookup a with
    | none =>
      refine .inl (.inr ⟨{ cls := .type "list", data := .seq vs.toArray }, ?_⟩)
      rw [eH]
      exact if_pos ⟨rfl, e⟩
    | some o =>
      have q := kin a o e
      rw [obj] at q
      cases q
      exact .inr ⟨_, vs.toArray, _, e, rfl, rfl, rfl, by rw [List.size_toArray, ai.length]; exact short, by simpa using rel⟩
  have held : HOk P w H s.heap := fun b u h => by
    obtain ⟨rfl, _, rfl⟩ := what h
    exact ⟨obj, by rw [List.length_map]; exact short, vs, _, rel, obj⟩
  -- what is no script is in the ground
  have ground : ∀ {b o}, s.heap.get? b = some o → (∀ c, o.data = c → b ≠ a ∨ H b = none) → (hidT s.heap H).get? b = some o := fun {b o} e n => hidT_get e (by
    cases q : H b with
    | none => rfl
    | some u =>
      rcases n _ rfl with z | z
      · exact absurd (what q).1 z
      · rw [q] at z; cases z)
  have names : ∀ {b m}, s.heap.Ns b m → (hidT s.heap H).Ns b m := fun {b m} ⟨o, es, ep, e, d, r⟩ => by
    refine ⟨o, es, ep, ground e fun _ _ => .inl fun z => ?_, d, r⟩
    rw [z, obj] at e
    rw [← Option.some.inj e] at d
    exact nomatch d
  have kinB : K.In (hidT s.heap H) := fun b o e => ground (kin b o e) fun _ _ => by
    by_cases z : b = a
    · right
      cases q : H b with
      | none => rfl
      | some u =>
        have := (what q).2.1
        rw [z, this] at e; cases e
    · exact .inl z
  obtain ⟨mc, n1, n2⟩ := nl
  have ent : Env0 P w K mg (hidT s.heap H) callerA [] s H :=
    ⟨rfl, ⟨kinB, names gl, ⟨mb, names bl, bb⟩, ⟨mc, names n1, n2⟩⟩, fun b o e => of_hidT e, Nat.le_of_eq (hidT_size _ _), trivial, (fun b z => nomatch z), held, .of_eq gens⟩
  refine codeAny_mono ((G _ kinB (names gl)).run callerA [] s H ⟨[.ref a], []⟩ [.ref a] [.ref a] _ _ room rfl ent (bind_ s (.ref a)) (.cons rfl .nil) (promise H seq fun b o h => (what h).1)) fun r s' end_ => ?_
  cases r with
  | error e =>
    obtain ⟨_, _, _, _, _, _, _, _, _, _, _, _, z⟩ := end_
    exact z.elim
  | ok fl =>
    cases fl with
    | next => exact False.elim end_
    | brk => exact False.elim end_
    | cont => exact False.elim end_
    | ret u =>
      obtain ⟨v, H', os, bare, un, held', rv, q⟩ := end_
      have q : v = .bl true := q
      subst q
      have rv : u = Value.bool true := rv
      subst rv
      refine ⟨rfl, OldK.of_keep fun b o e => ?_, os, bare⟩
      cases q : H b with
      | none => exact un.keep b o e q (fun z => nomatch z) (fun z => nomatch z)
      | some u =>
        obtain ⟨rfl, _, rfl⟩ := what q
        have e2 := (held' b _ (un.frzs b _ _ q)).1
        rw [obj] at e
        cases e
        exact e2
end
/-- the goal that k_head leaves, from the law's promise -/
theorem walk_end {l : PySem.W.OpenLaw} {n k : Nat} {q : Program} {loose : List Str} {XP : (Str → Option Value) → Heap → Prop} {YP : World → Heap → Prop} {d : DefRec} {K : Params → PySem.W.Frag} {S : PySem.W.Frag → Sg} {sp : DSp} {x : Str}
    (hn : l.most = some n) (hn2 : n ≤ 63) (hdf : d.params.defaults = []) (room : Room k callerA) (hY : ∀ (w : World) (h : Heap), YP w h → (K w.params).In h) (hS : ∀ K, (S K).K = K) (hc : sp.cost ≤ LIM) (hnp : sp.np = 1)
    (G : ∀ (w : World) (mg : Str → Option Value) (fa : Addr) (h : Heap), (K w.params).In h → h.Ns mainGlobals mg → mg d.name = some (.ref fa) →
      ∃ fd : FuncData, (∀ (s : Shared) (u : Value), BindsTo s fd ⟨[u], []⟩ [(x, u)]) ∧ ∀ base : Heap, (K w.params).In base → base.Ns mainGlobals mg → FnG l.prog w (K w.params) mg base k fa fd [x] (spOf (S (K w.params)) sp))
    (true_ : ∀ ns : List Int, ns.length ≤ 63 → sp.run [.scr ns] (fun d => d = .bl true) fun _ => False) : PySem.W.WalkO q loose XP YP l.row.toRowW d [] (fun f vs => PySem.call f vs) := by
  refine Att.attach_call hn hdf fun w s₀ s₁ mg mb fa o pm cd doc a vs ns T Y ho hd hcd hmg hobj hints hlen hg => ?_
  have kin := hY w _ Y
  obtain ⟨fd, hb, hG⟩ := G w mg fa _ kin T.T.g hmg
  refine law_end kin T.T.g T.T.b T.T.builtins T.T.nolimit hg hobj hints ?_ room hG hb fun H seq only => ?_
  · rw [sizeLine_eq]; omega
  · refine ⟨fun _ => False, fun _ => False, 0, [.scr ns], _, _, fun _ z => z, fun _ z => z.elim, fun _ z => z.elim, by omega, ⟨.ref a, [], rfl, ⟨a, rfl, ?_⟩, rfl⟩, by rw [hnp]; rfl, true_ ns (by omega), fun d v P' H' _ r e => ?_, fun _ _ _ _ _ _ _ z => z⟩
    · have e : hide H (fun _ => False) = H := by funext b; exact hide_out fun z => z
      rw [e, hS]; exact seq
    · subst e; exact r
end DL
namespace DL
open PySem PySem.Spec PyProof.Rows L2
/-! ### the pen -/
section
variable {X : Cx} {F : Fr} {pos : Pos} {es : List Expr} {us : TDs}
/-- [cells, 0, 0]: a new pen -/
def wPen (t : TDs) : TD := fun ρ Q => t ρ fun xs ρ1 => ∃ (cs : List Int), xs = [.lst (cs.map D.int), .int 0, .int 0] ∧ cs.length ≤ 63 ∧ Q .pen ρ1
theorem de_pen (h : DAs X F es us) : DE X F (.List es pos) (wPen us) := (pe_lst h).weak fun σ H Q ⟨P, ρ, Q', L, q, k⟩ => ⟨P, ρ, _, L, q, fun xs vs P1 ρ1 H1 g1 r1 ⟨cs, e, l, q1⟩ => by
  subst e
  have rr := rsR_s r1
  obtain ⟨v1, vs1, rfl, ⟨c, ws, rfl, hc, rc⟩, v2, vs2, rfl, e2, v3, vs3, rfl, e3, e4⟩ := rr
  have e2 : v2 = V.int 0 := e2
  have e3 : v3 = V.int 0 := e3
  have e4 : vs3 = [] := e4
  subst e2 e3 e4
  have ec := rels_ints rc
  subst ec
  refine ⟨by show 3 ≤ sizeLine; decide, fun p hp => ?_⟩
  have up : ∀ b u, H1 b = some u → upd H1 p (.lst [.ref c, .int 0, .int 0]) b = some u := fun b u e => by rw [upd_ne (ne_of_none e hp)]; exact e
  have L1 := g1.lk
  have hid : ∀ b o, hide H1 (Off F P1 ρ1 σ) b = some o → hide (upd H1 p (.lst [.ref c, .int 0, .int 0])) (Off F (fun a => P1 a ∨ a = p) ρ1 σ) b = some o := fun b o e => by
    obtain ⟨e1, e2⟩ := hide_some.mp e
    refine hide_some.mpr ⟨fun z => ?_, up b o e2⟩
    rcases z with z | (z | z) | z
    · exact e1 (.inl z)
    · exact e1 (.inr (.inl z))
    · subst z; rw [hp] at e2; cases e2
    · exact e1 (.inr (.inr z))
  have g2 : Gr F P1 ρ1 σ H1 (fun a => P1 a ∨ a = p) ρ1 (upd H1 p (.lst [.ref c, .int 0, .int 0])) := by
    refine L1.grow (fun a z => .inl z) (fun a z => z.imp id fun e => by rw [e]; exact hp) rfl (Nat.le_refl _) (fun a o e _ => up a o e) fun a z => ?_
    rcases z with z | z
    · exact (L1.pn a z).keep up hid
    · subst z
      exact ⟨c, cs, 0, 0, upd_same, hid _ _ hc, Int.le_refl _, by omega, Int.le_refl _, l⟩
  exact k .pen (.ref p) _ ρ1 _ (g1.trans L g2) ⟨p, rfl, .inr rfl⟩ q1⟩
end
/-- what a drawing def promises -/
def spDraw : DSp := ⟨2, 1, fun ds Q _ => ∃ many : Int, ds = [.pen, .int many] ∧ 0 < many ∧ many.natAbs.log2 < 9000 ∧ ∀ x : Int, 0 ≤ x → x < many → Q (.int x)⟩
/-- what is to be shown of a drawing def's text -/
def PDraw (N : List Str) (t : TDS) : Prop := ∀ (cs : List Int) (i r many : Int), 0 ≤ i → i ≤ LIM → 0 ≤ r → cs.length ≤ 63 → 0 < many → many.natAbs.log2 < 9000 →
      t { nx := fun _ => False, rt := fun d ρ => ∃ x : Int, d = .int x ∧ 0 ≤ x ∧ x < many ∧ ∃ i' r' : Int, ρ.sl[0]? = some (.ow [.lst (cs.map D.int), .int i', .int r']) ∧ 0 ≤ i' ∧ i' ≤ i + 1 ∧ 0 ≤ r' } ⟨0, .ow [.lst (cs.map D.int), .int i, .int r] :: .sh (.int many) :: List.replicate (N.length - 2) .un⟩
/-- a drawing def: the pen is its own list while it runs -/
theorem fnd_draw {P : Program} {w : World} {S : Sg} {mg : Str → Option Value} {base : Heap} {x qual : Str} {st : Stmt} {f : Addr} {fd : FuncData} {N ps : List Str} {k : Nat} {t : TDS} (F : Fun S.K x qual st f fd) (Sc : FnScope N ps (defScope st)) (hn : ps.length = 2)
    (hb : ∀ (cv : Value) (A : Around) (outer : List Env) (s : Shared) (H : Hp) (E : XK) (Fr' : Fr) (E' : Ex → Ev → Prop), Fr'.S = S → Cd (cxOf (L2.CX P w) P w S.K mg base N qual (defScope st) f cv A outer s H E) Fr' E' k →
      DSs (cxOf (L2.CX P w) P w S.K mg base N qual (defScope st) f cv A outer s H E) Fr' (defBody st) t)
    (pure_ : PDraw N t) : FnD P w S mg base (k + 1) f fd ps spDraw := by
  have hpl : 2 ≤ N.length := by have := congrArg List.length Sc.pre; rw [List.length_take] at this; omega
  refine fng_of F Sc (fun vs H Q E ⟨B, P', n, ds, Q', E', _, _, _, _, r, l, _⟩ => by rw [r.length, l, hn]; rfl) fun cv A outer s H vs Q E room gu ⟨B, P', n, ds, Q', E', a1, a2, a3, a4, r, l, ⟨many, e, m1, m2, q⟩, k1, k2⟩ => ?_
  subst e
  obtain ⟨v1, vs1, rfl, ⟨a, rfl, pa⟩, v2, vs2, rfl, e2, e3⟩ := r
  have e2 : v2 = V.int many := e2
  have e3 : vs2 = [] := e3
  subst e2 e3
  obtain ⟨c, cs, i, r, h1, h2, h3, h4, h5, h6⟩ := a3 a pa
  have cost : spDraw.cost = 1 := rfl
  rw [cost] at a4
  obtain ⟨Fr', hF⟩ : ∃ Fr' : Fr, Fr' = ⟨S, fun b => B b ∧ b ≠ a, fun b => P' b ∧ b ≠ a, (· = a), H, n + 1⟩ := ⟨_, rfl⟩
  have hS : Fr'.S = S := by rw [hF]
  obtain ⟨m, hm⟩ : ∃ m, N.length = m + 2 := ⟨N.length - 2, by omega⟩
  have st0 : L2.start N [V.ref a, V.int many] = some (V.ref a) :: some (V.int many) :: List.replicate m none := by
    unfold L2.start
    have e : N.length - [V.ref a, V.int many].length = m := by show N.length - 2 = m; omega
    rw [e]; rfl
  have off : Off Fr' (fun b => P' b ∧ b ≠ a) ⟨0, .ow [.lst (cs.map D.int), .int i, .int r] :: .sh (.int many) :: List.replicate (N.length - 2) .un⟩ (L2.start N [V.ref a, V.int many]) = B := by
    funext b
    rw [st0]
    subst hF
    refine propext ⟨?_, fun z => ?_⟩
    · rintro (z | z | ⟨j, t, e1, e2, e3⟩)
      · exact z.1
      · exact a1 b z.1
      · cases j with
        | zero =>
          have e3 : some (some (V.ref a)) = some (some (V.ref b)) := e3
          cases e3
          exact a1 a pa
        | succ j =>
          cases j with
          | zero =>
            have e1 : some (Slot.sh (.int many)) = some t := e1
            cases e1; cases e2
          | succ j =>
            have e1 : (List.replicate (N.length - 2) Slot.un)[j]? = some t := e1
            rw [List.getElem?_replicate] at e1
            split at e1
            · cases e1; cases e2
            · cases e1
    · by_cases e : b = a
      · subst e
        exact .inr (.inr ⟨0, _, rfl, rfl, rfl⟩)
      · exact .inl ⟨z, e⟩
  have L : Lk Fr' (fun b => P' b ∧ b ≠ a) ⟨0, .ow [.lst (cs.map D.int), .int i, .int r] :: .sh (.int many) :: List.replicate (N.length - 2) .un⟩ (L2.start N [V.ref a, V.int many]) H := by
    refine ⟨?_, ?_, ?_, ?_, ?_, fun b z => ?_, ?_, ?_, ?_, ?_, fun j t e => ?_, fun j j' t t' b e1 e2 o1 o2 g1 g2 => ?_⟩
    · rw [st0]; simp; omega
    · subst hF; exact fun b z => ⟨a1 b z.1, z.2⟩
    · subst hF; exact fun b z => a2 b z.1
    · subst hF; exact fun b z => by cases (show b = a from z); exact ⟨⟨_, h1⟩, fun z => z.2 rfl⟩
    · subst hF; exact fun b z => z
    · rw [off]
      subst hF
      exact (a3 b z.1).mono (by show n ≤ n + 1 - 0; omega)
    · subst hF; exact fun b z => .inl z
    · subst hF; exact ⟨Nat.zero_le _, a4⟩
    · subst hF; exact fun b o e _ _ => e
    · subst hF; exact fun b z => by cases (show b = a from z); exact ⟨_, h1⟩
    · cases j with
      | zero =>
        have e : some (Slot.ow [.lst (cs.map D.int), .int i, .int r]) = some t := e
        cases e
        refine ⟨a, [.ref c, .int i, .int r], by rw [st0]; rfl, h1, ?_, fun z => z.2 rfl, ?_⟩
        · subst hF; exact ⟨.inr rfl, fun z => z.2 rfl⟩
        · rw [off]
          exact ⟨_, _, rfl, ⟨c, _, rfl, h2, ints_rels cs⟩, _, _, rfl, rfl, _, _, rfl, rfl, rfl⟩
      | succ j =>
        cases j with
        | zero =>
          have e : some (Slot.sh (.int many)) = some t := e
          cases e
          exact ⟨.int many, by rw [st0]; rfl, rfl⟩
        | succ j =>
          have e : (List.replicate (N.length - 2) Slot.un)[j]? = some t := e
          rw [List.getElem?_replicate] at e
          split at e
          · cases e; trivial
          · cases e
    · have z : ∀ {j : Nat} {t : Slot}, ((⟨0, .ow [.lst (cs.map D.int), .int i, .int r] :: .sh (.int many) :: List.replicate (N.length - 2) .un⟩ : Ev).sl)[j]? = some t → t.owns = true → j = 0 := fun {j t} e o => by
        cases j with
        | zero => rfl
        | succ j =>
          cases j with
          | zero =>
            have e : some (Slot.sh (.int many)) = some t := e
            cases e; cases o
          | succ j =>
            have e : (List.replicate (N.length - 2) Slot.un)[j]? = some t := e
            rw [List.getElem?_replicate] at e
            split at e
            · cases e; cases o
            · cases e
      rw [z e1 o1, z e2 o2]
  have cd : Cd (cxOf (L2.CX P w) P w S.K mg base N qual (defScope st) f cv A outer s H E) Fr' noE k := ⟨by rw [hS]; rfl, rfl, room, gu, takes_noE, passes_of rfl, Sc.nd⟩
  refine ⟨_, hb cv A outer s H E Fr' _ hS cd, _, _, _, L, pure_ cs i r many h3 (by omega) h5 h6 m1 m2, fun _ _ _ _ _ _ z => z.elim, fun _ _ _ _ _ _ z => z.elim, fun _ _ _ _ _ _ z => z.elim, fun d v P2 ρ2 σ2 H2 L2 r2 ⟨x, e, x1, x2, i', r', es, i1, i2, r1⟩ => ?_⟩
  subst e
  have r2 : v = V.int x := r2
  subst r2
  obtain ⟨a', vs', g1, g2, ⟨g3, g4⟩, g5, g6⟩ := L2.val 0 _ es
  have ea : a' = a := by
    subst hF
    rcases g3 with ⟨_, z | z⟩ | z
    · exact absurd rfl z
    · exact absurd rfl (z a)
    · exact z
  subst ea
  obtain ⟨u1, w1, rfl, ⟨c', ws', rfl, hc', rc'⟩, u2, w2, rfl, f2, u3, w3, rfl, f3, f4⟩ := g6
  have f2 : u2 = V.int i' := f2
  have f3 : u3 = V.int r' := f3
  have f4 : w3 = [] := f4
  subst f2 f3 f4
  have ec := rels_ints rc'
  subst ec
  have hid : ∀ b o, hide H2 (Off Fr' P2 ρ2 σ2) b = some o → hide H2 (fun b => B b ∨ (P2 b ∨ b = a')) b = some o := fun b o w => by
    obtain ⟨w1, w2⟩ := hide_some.mp w
    refine hide_some.mpr ⟨fun z => w1 ?_, w2⟩
    have oa : Off Fr' P2 ρ2 σ2 a' := .inr (.inr ⟨0, _, es, rfl, g1⟩)
    rcases z with z | z | z
    · by_cases q : b = a'
      · subst q; exact oa
      · exact .inl (by subst hF; exact ⟨z, q⟩)
    · exact .inr (.inl z)
    · subst z; exact oa
  refine k1 (.int x) (.int x) (fun b => P2 b ∨ b = a') H2 ⟨fun b z => ?_, fun b z => ?_, fun b z => ?_, fun b o e np => ?_⟩ rfl (q x x1 x2)
  · by_cases e : b = a'
    · exact .inr e
    · exact .inl (L2.pp b (by subst hF; exact ⟨z, e⟩))
  · rcases z with z | z
    · rcases L2.pf b z with y | y
      · subst hF; exact .inl y.1
      · subst hF; exact .inr y
    · subst z; exact .inl pa
  · rcases z with z | z
    · refine ((L2.pn b z).mono ?_).keep (fun _ _ z => z) hid
      subst hF; show n + 1 - _ ≤ n + 1; omega
    · subst z
      exact ⟨c', cs, i', r', g2, hid _ _ hc', i1, by show i' ≤ ((n + 1 : Nat) : Int); omega, r1, h6⟩
  · refine L2.keep b o (by subst hF; exact e) (fun z => np (by subst hF; exact z.1)) fun z => np ?_
    subst hF
    rw [show b = a' from z]; exact pa
end DL
namespace DL
open PySem PySem.Spec PyProof.Rows L2
/-! ### calls by names -/
abbrev DKs (X : Cx) (F : Fr) (es : List Keyword) (t : TDs) : Prop := PK X es (upA VRs F t)
section
variable {X : Cx} {F : Fr} {E : Ex → Ev → Prop} {k j : Nat} {f : Addr} {fd : FuncData} {ps ks : List Str} {sp : DSp} {n : Nat} {sel : List Nat} {dds : List D} {dvs : List V} {dus : List Value} {x : Str} {p pos kpos : Pos} {e : Expr} {es : List Expr} {kws : List Keyword} {t u : TDs} {ta : TD} {nm : Option Str}
theorem dk_nil : DKs X F [] wsNil := pk_nil.weak fun σ H Q ⟨P, ρ, Q', L, q, k⟩ => k [] [] P ρ H L.gr rfl q
theorem dk_cons (h : DE X F e ta) (h2 : DKs X F kws u) : DKs X F (⟨nm, e, kpos⟩ :: kws) (wsCons ta u) := (pk_cons h h2).weak fun σ H Q ⟨P, ρ, Q', L, q, k⟩ => ⟨P, ρ, _, L, q, fun x v P1 ρ1 H1 g1 r1 q1 => ⟨P1, ρ1, _, g1.lk, q1, fun xs vs P2 ρ2 H2 g2 r2 q2 =>
    k (x :: xs) (v :: vs) P2 ρ2 H2 (g1.trans L g2) ⟨v, vs, rfl, VRs.gr g1.lk r1 g2, r2⟩ q2⟩⟩
/-- the arguments by place, then those by name -/
def wApp (t u : TDs) : TDs := fun ρ Q => t ρ fun xs ρ1 => u ρ1 fun ys ρ2 => Q (xs ++ ys) ρ2
/-- f(k = e, ..) -/
theorem de_call0 (c : Cd X F E k) (G : FnD X.prog X.w F.S X.mg X.base j f fd ps sp) (hj : j ≤ k) (hm : X.mg x = some (.ref f)) (hk : PySem.W.keepIn X.K (.ref f) = true) (hb : BindN X.K fd ps 0 ks sel dus) (hd : Cst dds dvs dus) (hkw : DKs X F kws u)
    (hg : Gl X x := by rfl)
    (hall : (backToKw pos (keywordEach kws X.env)).all (·.1.isSome) = true := by rfl) (hks : (backToKw pos (keywordEach kws X.env)).filterMap (·.1) = ks := by rfl)
    (hdb : (x == ("__debug__" : Str)) = false := by decide) (hpl : ((backTo pos (starEach [] X.env)).any (·.1) || (backToKw pos (keywordEach kws X.env)).any (·.1.isNone)) = false := by rfl) :
    DE X F (.Call (.Name x p) [] kws pos) (wCall sp E ks.length sel dds u) := by
  refine ⟨fun pins s σ H Q I ⟨P, ρ, Q', L, q, k1⟩ => ?_⟩
  refine wpAny_Call_Name_kw (ld_glob I hg hm ?_ hdb)
  refine PySem.W.callWith_KW0 (h₀ := X.base) I.ok.mod.kin hk hall (thn (hkw.run pos pins s σ H (fun vs H1 => ∃ P1 ρ1 ds, Gr F P ρ σ H P1 ρ1 H1 ∧ RsR VRs F P1 ρ1 σ H1 ds vs ∧ ds.length = ks.length ∧ sp.cost ≤ ρ1.bud ∧ (pick sel (ds ++ dds)).length = sp.np ∧ sp.run (pick sel (ds ++ dds)) (fun d => Q' d ⟨ρ1.bud - sp.cost, ρ1.sl⟩) fun x => E x ⟨ρ1.bud - sp.cost, ρ1.sl⟩) I
    ⟨P, ρ, _, L, q, fun ds vs P1 ρ1 H1 g1 r1 ⟨l, q1, q2, q3⟩ => ⟨P1, ρ1, ds, g1, r1, l, q1, q2, q3⟩⟩) fun ws s1 hu => ?_) hpl
  obtain ⟨vs, H1, I1, rv, P1, ρ1, ds, g1, r1, l, q1, q2, q3⟩ := hu
  refine ⟨I1.kIn, ?_⟩
  rw [hks]
  have rr := rsR_s r1
  exact run_call (vs := []) (us := []) c G hj hb hd I1 L g1 (by rw [List.nil_append]; exact rr) .nil rv rfl (by rw [← rv.length, rr.length, l]) q1 q2 q3 k1
theorem rels_split {S : Sg} {P : AS} {H : Hp} : ∀ {ds es : List D} {vs : List V}, Rels S P H (ds ++ es) vs → ∃ v1 v2, vs = v1 ++ v2 ∧ Rels S P H ds v1 ∧ Rels S P H es v2
  | [], es, vs, r => ⟨[], vs, rfl, rfl, r⟩
  | d :: ds, es, _, ⟨v, w, e, q, t⟩ => by
    obtain ⟨v1, v2, e2, r1, r2⟩ := rels_split t
    exact ⟨v :: v1, v2, by rw [e, e2]; rfl, ⟨v, v1, rfl, q, r1⟩, r2⟩
def wCallK (sp : DSp) (E : Ex → Ev → Prop) (n m : Nat) (sel : List Nat) (dds : List D) (t u : TDs) : TD := fun ρ Q => t ρ fun xs ρ0 => u ρ0 fun ys ρ1 => xs.length = n ∧ ys.length = m ∧ sp.cost ≤ ρ1.bud ∧ (pick sel (xs ++ ys ++ dds)).length = sp.np ∧ sp.run (pick sel (xs ++ ys ++ dds)) (fun d => Q d ⟨ρ1.bud - sp.cost, ρ1.sl⟩) fun x => E x ⟨ρ1.bud - sp.cost, ρ1.sl⟩
/-- f(e, .., k = e, ..) -/
theorem de_callKw (c : Cd X F E k) (G : FnD X.prog X.w F.S X.mg X.base j f fd ps sp) (hj : j ≤ k) (hm : X.mg x = some (.ref f)) (hk : PySem.W.keepIn X.K (.ref f) = true) (hb : BindN X.K fd ps n ks sel dus) (hd : Cst dds dvs dus) (ha : DAs X F (e :: es) t) (hkw : DKs X F kws u)
    (hg : Gl X x := by rfl) (hall : (backToKw pos (keywordEach kws X.env)).all (·.1.isSome) = true := by rfl) (hks : (backToKw pos (keywordEach kws X.env)).filterMap (·.1) = ks := by rfl)
    (hdb : (x == ("__debug__" : Str)) = false := by decide) (he : starEach (e :: es) X.env = (false, eval e X.env) :: starEach es X.env := by rfl)
    (hpl : ((backTo pos (starEach (e :: es) X.env)).any (·.1) || (backToKw pos (keywordEach kws X.env)).any (·.1.isNone)) = false := by rfl) :
    DE X F (.Call (.Name x p) (e :: es) kws pos) (wCallK sp E n ks.length sel dds t u) := by
  refine ⟨fun pins s σ H Q I ⟨P, ρ, Q', L, q, k1⟩ => ?_⟩
  refine wpAny_Call_Name_kw (ld_glob I hg hm ?_ hdb)
  refine PySem.W.callWith_KW (h₀ := X.base) I.ok.mod.kin hk hall (thn (ha.run pos pins s σ H _ I ⟨P, ρ, _, L, q, fun xs vs P1 ρ1 H1 g1 r1 q1 => (show (fun vs H1 => ∃ P1 ρ1 xs, Gr F P ρ σ H P1 ρ1 H1 ∧ RsR VRs F P1 ρ1 σ H1 xs vs ∧ u ρ1 fun ys ρ1 => xs.length = n ∧ ys.length = ks.length ∧ sp.cost ≤ ρ1.bud ∧ (pick sel (xs ++ ys ++ dds)).length = sp.np ∧ sp.run (pick sel (xs ++ ys ++ dds)) (fun d => Q' d ⟨ρ1.bud - sp.cost, ρ1.sl⟩) fun x => E x ⟨ρ1.bud - sp.cost, ρ1.sl⟩) vs H1 from ⟨P1, ρ1, xs, g1, r1, q1⟩)⟩) fun us s1 hu => ?_) hpl he
  obtain ⟨vs, H1, I1, rv, P1, ρ1, xs, g1, r1, q1⟩ := hu
  refine thn (hkw.run pos pins s1 σ H1 _ I1 ⟨P1, ρ1, _, g1.lk, q1, fun ys zs P2 ρ2 H2 g2 r2 q2 => (show (fun zs H2 => ∃ P2 ρ2 ys, Gr F P1 ρ1 σ H1 P2 ρ2 H2 ∧ RsR VRs F P2 ρ2 σ H2 ys zs ∧ xs.length = n ∧ ys.length = ks.length ∧ sp.cost ≤ ρ2.bud ∧ (pick sel (xs ++ ys ++ dds)).length = sp.np ∧ sp.run (pick sel (xs ++ ys ++ dds)) (fun d => Q' d ⟨ρ2.bud - sp.cost, ρ2.sl⟩) fun x => E x ⟨ρ2.bud - sp.cost, ρ2.sl⟩) zs H2 from ⟨P2, ρ2, ys, g2, r2, q2⟩)⟩) fun ws s2 hw => ?_
  obtain ⟨zs, H2, I2, rz, P2, ρ2, ys, g2, r2, l1, l2, q1, q2, q3⟩ := hw
  refine ⟨I2.kIn, ?_⟩
  rw [hks, List.nil_append]
  have rx : Rels F.S P2 (hide H2 (Off F P2 ρ2 σ)) xs vs := (rsR_s r1).mono (g2.hid g1.lk) g2.pp
  have ry := rsR_s r2
  exact run_call c G hj hb hd I2 L (g1.trans L g2) (rx.append ry) rv rz (by rw [← rv.length, rx.length, l1]) (by rw [← rz.length, ry.length, l2]) q1 q2 q3 k1
end
/-- a def that is told by a promise -/
structure Cal (P : Program) (w : World) (S : Sg) (mg : Str → Option Value) (base : Heap) (k : Nat) (x : Str) (y qual : Str) (st : Stmt) (ps : List Str) (sp : DSp) : Prop where
  ex : ∃ f fd, mg x = some (.ref f) ∧ Fun S.K y qual st f fd ∧ FnD P w S mg base k f fd ps sp
/-- how the arguments are bound -/
def BindW (y qual : Str) (st : Stmt) (ps : List Str) (n : Nat) (ks : List Str) (sel : List Nat) : Prop := ∀ (kV doc pm : Value) (an : Option Addr) (cdv ct : Value) (us ws : List Value), us.length = n → ws.length = ks.length →
  bindArgs (PySem.W.fnOf y qual (defArgs st) (defBody st) (defScope st) .none kV doc pm an cdv ct) ⟨us, ks.zip ws⟩ = pure (ps.zip (pick sel (us ++ ws)))
theorem bindN_of {K : PySem.W.Frag} {y qual : Str} {st : Stmt} {f : Addr} {fd : FuncData} {ps ks : List Str} {n : Nat} {sel : List Nat} (F : Fun K y qual st f fd) (h : BindW y qual st ps n ks sel) : BindN K fd ps n ks sel [] := by
  obtain ⟨oc, od, kV, doc, pm, an, cdv, ct, osl, rfl, _, _⟩ := F.ex
  refine fun s us ws X l1 l2 => .of_eq ?_
  rw [List.append_nil]
  exact h kV doc pm an cdv ct us ws l1 l2
section
variable {X : Cx} {F : Fr} {E : Ex → Ev → Prop} {k j : Nat} {y qual : Str} {st : Stmt} {ps ks : List Str} {sp : DSp} {n : Nat} {sel : List Nat} {x : Str} {p pos kpos : Pos} {e : Expr} {es : List Expr} {kws : List Keyword} {t u : TDs}
theorem de_C (c : Cd X F E k) (C : Cal X.prog X.w F.S X.mg X.base j x y qual st ps sp) (hj : j ≤ k) (hb : BindW y qual st ps n [] sel) (ha : DAs X F (e :: es) t)
    (hg : Gl X x := by rfl) (hdb : (x == ("__debug__" : Str)) = false := by decide) (he : starEach (e :: es) X.env = (false, eval e X.env) :: starEach es X.env := by rfl) (hpl : (backTo pos (starEach es X.env)).any (·.1) = false := by rfl) :
    DE X F (.Call (.Name x p) (e :: es) [] pos) (wCall sp E n sel [] t) := by
  obtain ⟨f, fd, hm, Fu, G⟩ := C.ex
  exact de_call c G hj hm (by rw [c.hK]; exact Fu.kp) (bindN_of (by rw [c.hK]; exact Fu) hb) .nil ha hg hdb he hpl
theorem de_CK (c : Cd X F E k) (C : Cal X.prog X.w F.S X.mg X.base j x y qual st ps sp) (hj : j ≤ k) (hb : BindW y qual st ps n ks sel) (ha : DAs X F (e :: es) t) (hkw : DKs X F kws u)
    (hg : Gl X x := by rfl) (hall : (backToKw pos (keywordEach kws X.env)).all (·.1.isSome) = true := by rfl) (hks : (backToKw pos (keywordEach kws X.env)).filterMap (·.1) = ks := by rfl)
    (hdb : (x == ("__debug__" : Str)) = false := by decide) (he : starEach (e :: es) X.env = (false, eval e X.env) :: starEach es X.env := by rfl)
    (hpl : ((backTo pos (starEach (e :: es) X.env)).any (·.1) || (backToKw pos (keywordEach kws X.env)).any (·.1.isNone)) = false := by rfl) :
    DE X F (.Call (.Name x p) (e :: es) kws pos) (wCallK sp E n ks.length sel [] t u) := by
  obtain ⟨f, fd, hm, Fu, G⟩ := C.ex
  exact de_callKw c G hj hm (by rw [c.hK]; exact Fu.kp) (bindN_of (by rw [c.hK]; exact Fu) hb) .nil ha hkw hg hall hks hdb he hpl
theorem de_C0 (c : Cd X F E k) (C : Cal X.prog X.w F.S X.mg X.base j x y qual st ps sp) (hj : j ≤ k) (hb : BindW y qual st ps 0 ks sel) (hkw : DKs X F kws u)
    (hg : Gl X x := by rfl)
    (hall : (backToKw pos (keywordEach kws X.env)).all (·.1.isSome) = true := by rfl) (hks : (backToKw pos (keywordEach kws X.env)).filterMap (·.1) = ks := by rfl)
    (hdb : (x == ("__debug__" : Str)) = false := by decide) (hpl : ((backTo pos (starEach [] X.env)).any (·.1) || (backToKw pos (keywordEach kws X.env)).any (·.1.isNone)) = false := by rfl) :
    DE X F (.Call (.Name x p) [] kws pos) (wCall sp E ks.length sel [] u) := by
  obtain ⟨f, fd, hm, Fu, G⟩ := C.ex
  exact de_call0 c G hj hm (by rw [c.hK]; exact Fu.kp) (bindN_of (by rw [c.hK]; exact Fu) hb) .nil hkw hg hall hks hdb hpl
end
/-! ### a, b = x, y -/
section
variable {X : Cx} {F : Fr} {pos : Pos} {ta : TDs}
def wPar (i j : Nat) (t : TDs) : TDS := fun D ρ => t ρ fun ds ρ1 => match ds with
  | [a, b] => D.nx ((ρ1.put i (.sh a)).put j (.sh b))
  | _ => False
def wPar3 (i j l : Nat) (t : TDs) : TDS := fun D ρ => t ρ fun ds ρ1 => match ds with
  | [a, b, c] => D.nx (((ρ1.put i (.sh a)).put j (.sh b)).put l (.sh c))
  | _ => False
theorem ds_par (i j : Nat) {x y : Str} {a b : Expr} {px py pt : Pos} {kt k2 pt2} (hc : X.calm = true) (hN : X.N.Nodup) (ha : DAs X F [a, b] ta) (hi : X.N[i]? = some x := by rfl) (hj : X.N[j]? = some y := by rfl) (hij : i ≠ j := by decide)
    (hx : X.env.scope.names.lookup x = some .local := by rfl) (hy : X.env.scope.names.lookup y = some .local := by rfl)
    (hw : swappedStores [.Tuple [.Name x px, .Name y py] kt pt] (.Tuple [a, b] k2 pt2) X.env = pure (some [x, y]) := by rfl)
    (hs : swapsWithSole [.Tuple [.Name x px, .Name y py] kt pt] (.Tuple [a, b] k2 pt2) pos.line X.env = pure false := by rfl) :
    DS X F (.Assign [.Tuple [.Name x px, .Name y py] kt pt] (.Tuple [a, b] k2 pt2) pos) (wPar i j ta) := (ps_par hc hN hi hj hij hx hy ha hw hs).weak fun D σ H ⟨P, ρ, D', L, q, n, _⟩ => ⟨P, ρ, _, L, q, fun ds vs P1 ρ1 H1 g1 r1 q1 => by
  split at q1
  · obtain ⟨v, w, e, r3, r4⟩ := rs2 r1
    subst e
    obtain ⟨L2, s2⟩ := g1.lk.setsh i r3
    obtain ⟨L3, s3⟩ := L2.setsh j (r4.sy s2)
    exact ⟨v, w, rfl, n P1 _ _ H1 L3 ((g1.sy L).trans (s2.trans s3)) q1⟩
  · exact q1.elim⟩
theorem ds_par3 (i j l : Nat) {x y z : Str} {a b c : Expr} {px py pz pt : Pos} {kt k2 pt2} (hc : X.calm = true) (hN : X.N.Nodup) (ha : DAs X F [a, b, c] ta) (hi : X.N[i]? = some x := by rfl) (hj : X.N[j]? = some y := by rfl) (hl : X.N[l]? = some z := by rfl)
    (hij : i ≠ j := by decide) (hil : i ≠ l := by decide) (hjl : j ≠ l := by decide)
    (hx : X.env.scope.names.lookup x = some .local := by rfl) (hy : X.env.scope.names.lookup y = some .local := by rfl) (hz : X.env.scope.names.lookup z = some .local := by rfl)
    (hw : swappedStores [.Tuple [.Name x px, .Name y py, .Name z pz] kt pt] (.Tuple [a, b, c] k2 pt2) X.env = pure (some [x, y, z]) := by rfl)
    (hs : swapsWithSole [.Tuple [.Name x px, .Name y py, .Name z pz] kt pt] (.Tuple [a, b, c] k2 pt2) pos.line X.env = pure false := by rfl) :
    DS X F (.Assign [.Tuple [.Name x px, .Name y py, .Name z pz] kt pt] (.Tuple [a, b, c] k2 pt2) pos) (wPar3 i j l ta) := (ps_par3 hc hN hi hj hl hij hil hjl hx hy hz ha hw hs).weak fun D σ H ⟨P, ρ, D', L, q, n, _⟩ => ⟨P, ρ, _, L, q, fun ds vs P1 ρ1 H1 g1 r1 q1 => by
  split at q1
  · obtain ⟨v, vs', e, r3, r4⟩ := r1
    obtain ⟨w, u, e2, r5, r6⟩ := rs2 r4
    subst e e2
    obtain ⟨L2, s2⟩ := g1.lk.setsh i r3
    obtain ⟨L3, s3⟩ := L2.setsh j (r5.sy s2)
    obtain ⟨L4, s4⟩ := L3.setsh l ((r6.sy s2).sy s3)
    exact ⟨v, w, u, rfl, n P1 _ _ H1 L4 ((g1.sy L).trans (s2.trans (s3.trans s4))) q1⟩
  · exact q1.elim⟩
end
/-! ### dict displays -/
section
variable {F : Fr} {P P' : AS} {ρ ρ' : Ev} {σ : St} {H H' H₀ : Hp} {D₀ : Addr} {o o2 : HO}
/-- one object is off limits for a while -/
theorem Lk.away (L : Lk F P ρ σ H) (h : H D₀ = none) : Lk (F.off fun a => F.B0 a ∨ a = D₀) P ρ σ (upd H D₀ o) ∧ (∀ a u, hide H (Off F P ρ σ) a = some u → hide (upd H D₀ o) (Off (F.off fun a => F.B0 a ∨ a = D₀) P ρ σ) a = some u) := by
  have e : hide (upd H D₀ o) (· = D₀) = H := by
    funext b
    by_cases hb : b = D₀
    · rw [hide_in (B := (· = D₀)) hb, hb, h]
    · rw [hide_out (B := (· = D₀)) hb, upd_ne hb]
  obtain ⟨M, off, hid⟩ := Lk.mask (D := D₀) (o := o) (H := upd H D₀ o) (by rw [e]; exact L) upd_same
  refine ⟨M, fun a u q => ?_⟩
  exact (hid a u).mp (by rw [e]; exact q)
/-- and home again -/
theorem Lk.home (L : Lk F P ρ σ H) (h : H D₀ = none) (g : Gr (F.off fun a => F.B0 a ∨ a = D₀) P ρ σ (upd H D₀ o) P' ρ' H') : H' D₀ = some o ∧ Gr F P ρ σ H P' ρ' (hide H' (· = D₀)) ∧
    (∀ a u, hide H' (Off (F.off fun a => F.B0 a ∨ a = D₀) P' ρ' σ) a = some u → hide (hide H' (· = D₀)) (Off F P' ρ' σ) a = some u) := by
  have nP : ¬ P D₀ := fun z => by
    obtain ⟨c, cs, k, r, e, _⟩ := L.pn D₀ z
    rw [h] at e; cases e
  have hD : H' D₀ = some o := g.kp D₀ _ upd_same nP
  have kp : ∀ a u, H a = some u → ¬ P a → hide H' (· = D₀) a = some u := fun a u e np => by
    have ne : a ≠ D₀ := fun z => by rw [z, h] at e; cases e
    exact hide_some.mpr ⟨ne, g.kp a u (by rw [upd_ne ne]; exact e) np⟩
  have pf : ∀ a, P' a → P a ∨ H a = none := fun a z => by
    rcases g.pf a z with z | z
    · exact .inl z
    · right
      by_cases e : a = D₀
      · rw [e]; exact h
      · rw [upd_ne e] at z; exact z
  have nP' : ¬ P' D₀ := fun z => by
    rcases g.pf D₀ z with z | z
    · exact nP z
    · rw [upd_same] at z; cases z
  have offs : ∀ a, Off F P' ρ' σ a ∨ a = D₀ → Off (F.off fun a => F.B0 a ∨ a = D₀) P' ρ' σ a := fun a z => by
    rcases z with (z | z | z) | z
    · exact .inl (.inl z)
    · exact .inr (.inl z)
    · exact .inr (.inr z)
    · exact .inl (.inr z)
  have hidB : ∀ a u, hide H' (Off (F.off fun a => F.B0 a ∨ a = D₀) P' ρ' σ) a = some u → hide (hide H' (· = D₀)) (Off F P' ρ' σ) a = some u := fun a u e => by
    obtain ⟨e1, e2⟩ := hide_some.mp e
    exact hide_some.mpr ⟨fun z => e1 (offs a (.inl z)), hide_some.mpr ⟨fun z => e1 (offs a (.inr z)), e2⟩⟩
  refine ⟨hD, ?_, hidB⟩
  refine L.grow g.pp pf g.sl g.bd kp fun a z => ?_
  obtain ⟨c, cs, k, r, e1, e2, e3⟩ := g.lk.pn a z
  exact ⟨c, cs, k, r, hide_some.mpr ⟨fun e => nP' (by rw [← e]; exact z), e1⟩, hidB _ _ e2, e3⟩
theorem upd_hide {H : Hp} {a : Addr} {o : HO} : upd (hide H (· = a)) a o = upd H a o := by
  funext b
  by_cases hb : b = a
  · rw [hb, upd_same, upd_same]
  · rw [upd_ne hb, upd_ne hb, hide_out (B := (· = a)) hb]
end
def D.key : D → Option Key
  | .int i => some (.inl i)
  | .str x => some (.inr x)
  | _ => none
theorem key_rel {S : Sg} {P : AS} {H : Hp} {d : D} {v : V} {k : Key} (e : d.key = some k) (r : Rel S P H d v) : v = kV k := by
  cases d <;> simp only [D.key, Option.some.injEq, reduceCtorEq] at e <;> subst e <;> exact r
abbrev TDp := Ev → (List D → List D → Ev → Prop) → Prop
def wpNil : TDp := fun ρ Q => Q [] [] ρ
def wpCons (tk tv : TD) (u : TDp) : TDp := fun ρ Q => tk ρ fun x ρ1 => tv ρ1 fun y ρ2 => u ρ2 fun xs ys ρ3 => Q (x :: xs) (y :: ys) ρ3
def upP (F : Fr) (t : TDp) (σ : St) (H : Hp) (Q : List (V × V) → Hp → Prop) : Prop := ∃ P ρ Q', Lk F P ρ σ H ∧ t ρ Q' ∧ ∀ ds es vs ws P' ρ' H', Gr F P ρ σ H P' ρ' H' → Rels F.S P' (hide H' (Off F P' ρ' σ)) ds vs → Rels F.S P' (hide H' (Off F P' ρ' σ)) es ws → Q' ds es ρ' → Q (vs.zip ws) H'
structure DPs (X : Cx) (F : Fr) (pos : Pos) (keys : List (Option Expr)) (values : List Expr) (t : TDp) : Prop where
  ex : ∃ trs, PPs X pos keys values trs ∧ ∀ σ H Q, upP F t σ H Q → tPairs trs σ H Q
section
variable {X : Cx} {F : Fr} {pos : Pos} {keys : List (Option Expr)} {values : List Expr} {t : TDp} {tk tv : TD} {k v : Expr}
theorem dp_nil : DPs X F pos [] [] wpNil := ⟨[], pps_nil, fun σ H Q ⟨P, ρ, Q', L, q, k⟩ => k [] [] [] [] P ρ H L.gr rfl rfl q⟩
theorem dp_cons (hk : DE X F k tk) (hv : DE X F v tv) (h : DPs X F pos keys values t) : DPs X F pos (some k :: keys) (v :: values) (wpCons tk tv t) := by
  obtain ⟨trs, h1, h2⟩ := h.ex
  refine ⟨_, pps_cons hk hv h1, fun σ H Q ⟨P, ρ, Q', L, q, k⟩ => ⟨P, ρ, _, L, q, fun x v P1 ρ1 H1 g1 r1 q1 => ⟨P1, ρ1, _, g1.lk, q1, fun y w P2 ρ2 H2 g2 r2 q2 => h2 _ _ _ ⟨P2, ρ2, _, g2.lk, q2, fun ds es vs ws P3 ρ3 H3 g3 r3 r4 q3 => ?_⟩⟩⟩⟩
  exact k (x :: ds) (y :: es) (v :: vs) (w :: ws) P3 ρ3 H3 (g1.trans L (g2.trans g1.lk g3)) ⟨_, _, rfl, (r1.gr g1.lk g2).gr g2.lk g3, r3⟩ ⟨_, _, rfl, r2.gr g2.lk g3, r4⟩ q3
theorem putK_new {κ : Type} [DecidableEq κ] {kvs : List (κ × V)} {k : κ} {v : V} (h : k ∉ kvs.map (·.1)) : putK kvs k v = kvs ++ [(k, v)] := by
  unfold putK
  rw [if_neg]
  simp only [List.any_eq_true, decide_eq_true_eq, not_exists, not_and]
  rintro ⟨a, b⟩ hx e
  exact h (by rw [← e]; exact List.mem_map_of_mem (f := (·.1)) hx)
theorem mergeK_new : ∀ {more kvs : List (Key × V)}, (kvs.map (·.1) ++ more.map (·.1)).Nodup → mergeK kvs more = kvs ++ more
  | [], kvs, _ => by rw [List.append_nil]; rfl
  | p :: r, kvs, h => by
    have h1 : p.1 ∉ kvs.map (·.1) := fun z => by
      rw [List.nodup_append] at h
      exact h.2.2 _ z _ (by simp) rfl
    show mergeK (putK kvs p.1 p.2) r = _
    rw [putK_new h1, mergeK_new]
    · simp
    · simpa using h
/-- {} -/
def wDic0 : TD := fun ρ Q => Q (.dic [] []) ρ
theorem de_dic0 : DE X F (.Dict [] [] pos) wDic0 := pe_dnewK.weak fun σ H Q ⟨P, ρ, Q', L, q, k⟩ => fun p hp => k (.dic [] []) _ P ρ _ (L.new hp) ⟨p, [], rfl, rel_new L hp, rfl, rfl⟩ q
/-- {k: v, ..} -/
def wDic (t : TDp) : TD := fun ρ Q => t ρ fun xs ys ρ1 => ∃ ks, xs.mapM D.key = some ks ∧ ks.Nodup ∧ xs.length = ys.length ∧ xs.length ≤ 15 ∧ Q (.dic ks ys) ρ1
theorem keys_rel {S : Sg} {P : AS} {H : Hp} : ∀ {xs : List D} {vs : List V} {ks : List Key}, xs.mapM D.key = some ks → Rels S P H xs vs → vs = ks.map kV
  | [], vs, ks, e, r => by
    have r : vs = [] := r
    simp at e
    subst e r; rfl
  | x :: xs, _, ks, e, ⟨v, w, e2, q, t⟩ => by
    rw [List.mapM_cons] at e
    cases h : x.key with
    | none => rw [h] at e; cases e
    | some k =>
      rw [h] at e
      cases h2 : xs.mapM D.key with
      | none => rw [h2] at e; cases e
      | some l =>
        rw [h2] at e
        cases e
        rw [e2, key_rel h q, keys_rel h2 t]; rfl
theorem de_dic (h : ∀ B, DPs X (F.off B) pos keys values t) (hall : keys.all (·.isSome) = true := by rfl) (hl : keys.length = values.length := by rfl) (h0 : keys ≠ [] := by exact List.cons_ne_nil _ _) (h15 : keys.length ≤ 15 := by decide) : DE X F (.Dict keys values pos) (wDic t) := by
  refine ⟨fun pins s σ H Q I ⟨P, ρ, Q', L, q, k⟩ => ?_⟩
  have hn := I.hok.fresh (Nat.le_refl s.heap.objs.size)
  obtain ⟨trs, h1, h2⟩ := (h fun a => F.B0 a ∨ a = s.heap.objs.size).ex
  obtain ⟨L1, hid1⟩ := L.away (D₀ := s.heap.objs.size) (o := .dK []) hn
  have I1 := I.laid (a := s.heap.objs.size) (o := .dK []) (h' := s.heap.push { cls := .type "dict", data := .dict #[] }) (t' := s.toks) (fun _ _ q => Heap.get?_push_of_some _ q) (Nat.le_refl _) (dk_empty s.heap I.big)
  refine wpAny_Dict_walk (knd := mixKind X.prog X.w) hall hl h0 h15 (thn (h1.run pins _ σ _ (fun ps H2 => H2 s.heap.objs.size = some (.dK []) ∧ ∃ kvs : List (Key × V), ps = kvs.map (fun kv => (kV kv.1, kv.2)) ∧ kvs.length ≤ 15 ∧ Q (.ref s.heap.objs.size) (upd H2 s.heap.objs.size (.dK (mergeK [] kvs)))) I1
    (h2 _ _ _ ⟨P, ρ, _, L1, q, fun ds es vs ws P' ρ' H' g r1 r2 ⟨ks, e1, e2, e3, e4, q1⟩ => ?_⟩)) fun ws s2 ⟨ps, H2, I2, rel, e, kvs, ep, lk, q2⟩ => ?_)
  · obtain ⟨hD, g', hidB⟩ := L.home hn g
    have ev := keys_rel e1 r1
    subst ev
    have r2' : Rels F.S P' (hide (hide H' (· = s.heap.objs.size)) (Off F P' ρ' σ)) es ws := r2.mono hidB fun _ z => z
    have lw : ks.length = ws.length := by
      have a1 := r1.length
      have a2 := r2.length
      rw [List.length_map] at a1
      omega
    have lx : ks.length ≤ 15 := by
      have a1 := r1.length
      rw [List.length_map] at a1
      omega
    refine ⟨hD, ks.zip ws, ?_, by rw [List.length_zip]; omega, ?_⟩
    · clear r1 r2 r2' e1 e2 e3 e4 q1 lx
      induction ks generalizing ws with
      | nil => rfl
      | cons a ks ih =>
        cases ws with
        | nil => cases lw
        | cons b ws => rw [List.map_cons, List.zip_cons_cons, List.zip_cons_cons, List.map_cons, ih ws (by simpa using lw)]
    · have em : mergeK [] (ks.zip ws) = ks.zip ws := by
        rw [mergeK_new, List.nil_append]
        rw [List.map_nil, List.nil_append]
        rw [List.map_fst_zip (by omega)]
        exact e2
      rw [em, ← upd_hide]
      have hn2 : hide H' (· = s.heap.objs.size) s.heap.objs.size = none := hide_in (B := (· = s.heap.objs.size)) rfl
      exact k (.dic ks es) _ P' ρ' _ (g'.trans L (g'.lk.new hn2)) ⟨_, ws, rfl, rel_new g'.lk hn2, lw, rels_up g'.lk hn2 r2'⟩ q1
  · subst ep
    obtain ⟨rs, c, rk⟩ := carries_of (P := X.prog) (w := X.w) rel
    obtain ⟨z, hd, vs0, r0, dd⟩ := dk_of I2.hok e
    cases r0
    refine ⟨rs, c, dd, fun h' dd' hs => ⟨.ref s.heap.objs.size, _, ?_, rfl, q2⟩⟩
    have hz : (mergeK [] kvs).length ≤ sizeLine := by
      have h1 := length_mergeK kvs []
      rw [List.length_nil] at h1
      rw [sizeLine_eq]; omega
    have he : ∃ q, h'.get? s.heap.objs.size = some q := let ⟨q, _, _, hq, _⟩ := dd'; ⟨q, hq⟩
    exact d_write I2 (by rw [e]; exact True.intro) hs he (dk_new hz hd (rk.merge .nil) dd')
end
end DL
namespace DL
open PySem PySem.Spec PyProof.Rows L2
/-! ### in, not in -/
def D.eqs (x : D) (ys : List D) : Bool := ys.any fun y => D.eqb y x
def dInB (x y : D) (Q : Bool → Prop) : Prop := match y with
  | .lst ys => WfN 64 x ∧ WfN 64 y ∧ Q (D.eqs x ys)
  | .tup ys => WfN 64 x ∧ WfN 64 y ∧ Q (D.eqs x ys)
  | .str s => ∃ t, x = .str t ∧ Q (!(Builtin.Str.occurrences s t 0 s.length 1).isEmpty)
  | .dic ks _ => ∃ k, x.key = some k ∧ Q (ks.any fun j => decide (j = k))
  | _ => False
def dIn : W2 := fun x y Q => dInB x y fun b => Q (.bl b)
def dNin : W2 := fun x y Q => dInB x y fun b => Q (.bl (!b))
def rInT (K : PySem.W.Frag) (n : Bool) : R2 := fun x y H Q => ∃ d ds, Dp K H x d ∧ Dp K H y (.tuple ds) ∧ SeqAt.shaped d = true ∧ SeqAt.shaped (.tuple ds) = true ∧ Q (.bl (n ^^ ds.any fun z => PyData.eqv z d)) H
def rInDc (n : Bool) : R2 := fun x y H Q => ∃ a o, y = .ref a ∧ DGet H a x o ∧ Q (.bl (n ^^ o.isSome)) H
section
variable {X : Cx} {F : Fr}
theorem op_inT (hu : X.A.units + 65 < cLine) : OpR X (compareOp .In) (rInT X.K false) := by
  intro pins s σ H x y v u Q I rx ry h
  obtain ⟨d, ds, hd, he, sd, se, q⟩ := h
  obtain ⟨as, r1⟩ := Dp.reads I d x v hd rx
  obtain ⟨bs, r2⟩ := Dp.reads I (.tuple ds) y u he ry
  exact SeqAt.in_tuple_reads r2 r1 (SeqAt.canLay_of_shaped se) (SeqAt.canLay_of_shaped sd) (room_in_shaped sd hu) ⟨.bl _, H, I, rfl, by simpa using q⟩
theorem op_ninT (hu : X.A.units + 65 < cLine) : OpR X (compareOp .NotIn) (rInT X.K true) := by
  intro pins s σ H x y v u Q I rx ry h
  obtain ⟨d, ds, hd, he, sd, se, q⟩ := h
  obtain ⟨as, r1⟩ := Dp.reads I d x v hd rx
  obtain ⟨bs, r2⟩ := Dp.reads I (.tuple ds) y u he ry
  exact SeqAt.notIn_tuple_reads r2 r1 (SeqAt.canLay_of_shaped se) (SeqAt.canLay_of_shaped sd) (room_in_shaped sd hu) ⟨.bl _, H, I, rfl, by simpa using q⟩
theorem op_inDc (hu : X.A.units + 1 < cLine) : OpR X (compareOp .In) (rInDc false) := by
  intro pins s σ H x y v u Q I rx ry h
  obtain ⟨a, o, rfl, g, q⟩ := h
  cases (show u = Value.ref a from ry)
  exact d_in hu I g rx fun s3 I3 => ⟨.bl o.isSome, H, I3, rfl, by simpa using q⟩
theorem op_ninDc (hu : X.A.units + 1 < cLine) : OpR X (compareOp .NotIn) (rInDc true) := by
  intro pins s σ H x y v u Q I rx ry h
  obtain ⟨a, o, rfl, g, q⟩ := h
  cases (show u = Value.ref a from ry)
  exact d_notIn hu I g rx fun s3 I3 => ⟨.bl (!o.isSome), H, I3, rfl, by simpa using q⟩
def rInAll (K : PySem.W.Frag) : R2 := fun x y H Q => ((rInD K x y H Q ∨ rInT K false x y H Q) ∨ (∃ i j, x = .str i ∧ y = .str j ∧ Q (.bl (!(Builtin.Str.occurrences j i 0 j.length 1).isEmpty)) H)) ∨ rInDc false x y H Q
def rNinAll (K : PySem.W.Frag) : R2 := fun x y H Q => ((rNotInD K x y H Q ∨ rInT K true x y H Q) ∨ (∃ i j, x = .str i ∧ y = .str j ∧ Q (.bl (!(!(Builtin.Str.occurrences j i 0 j.length 1).isEmpty))) H)) ∨ rInDc true x y H Q
theorem op_inAll (hu : X.A.units + 65 < cLine) : OpR X (compareOp .In) (rInAll X.K) := (((op_inD hu).or (op_inT hu)).or op_in_str).or (op_inDc (by omega))
theorem op_ninAll (hu : X.A.units + 65 < cLine) : OpR X (compareOp .NotIn) (rNinAll X.K) := (((op_notInD hu).or (op_ninT hu)).or op_notin_str).or (op_ninDc (by omega))
theorem pys_map : ∀ xs : List D, D.pys xs = xs.map D.py
  | [] => rfl
  | x :: xs => by rw [D.pys, pys_map xs]; rfl
theorem eqs_pys (x : D) (ys : List D) : ((D.pys ys).any fun z => PyData.eqv z x.py) = D.eqs x ys := by
  rw [pys_map, List.any_map]; rfl
theorem dget_zip {P : AS} {H : Hp} {a : Addr} {ks : List Key} {k : Key} {vs : List V} (h : H a = some (.dK (ks.zip vs))) (l : ks.length = vs.length) : ∃ o, DGet H a (kV k) o ∧ o.isSome = (ks.any fun j => decide (j = k)) ∧ ∀ v, o = some v → ∃ i : Nat, ks[i]? = some k ∧ vs[i]? = some v := by
  refine ⟨valV (ks.zip vs) k, .inl ⟨_, k, .inl h, rfl, rfl⟩, ?_, ?_⟩
  · clear h
    induction ks generalizing vs with
    | nil => rfl
    | cons x ks ih =>
      cases vs with
      | nil => cases l
      | cons v vs =>
        rw [List.zip_cons_cons]
        by_cases e : x = k
        · rw [valV_pos e]; simp [e]
        · rw [valV_neg e, ih (by simpa using l)]
          simp [e]
  · clear h
    induction ks generalizing vs with
    | nil => intro v e; cases e
    | cons x ks ih =>
      cases vs with
      | nil => cases l
      | cons w vs =>
        intro v e
        rw [List.zip_cons_cons] at e
        by_cases q : x = k
        · rw [valV_pos q] at e
          cases e
          exact ⟨0, by simp [q], rfl⟩
        · rw [valV_neg q] at e
          obtain ⟨i, h1, h2⟩ := ih (by simpa using l) v e
          exact ⟨i + 1, by simpa using h1, by simpa using h2⟩
theorem o_in : Op2 Rs F (rInAll F.S.K) dIn := .flat fun P ρ σ H x y v w Q Q' L rx ry q k => by
  unfold dIn dInB at q
  cases y <;> try exact False.elim q
  case lst ys =>
    obtain ⟨w1', w2', q⟩ := q
    have w1 := w1'.out
    have w2 := w2'.out
    exact .inl (.inl (.inl ⟨x.py, D.pys ys, Rel.dp x v w1 rx.rel, Rel.dp (.lst ys) w w2 ry.rel, wf_shaped w1, wf_shaped w2, by rw [eqs_pys]; exact k (.bl _) _ rfl q⟩))
  case tup ys =>
    obtain ⟨w1', w2', q⟩ := q
    have w1 := w1'.out
    have w2 := w2'.out
    exact .inl (.inl (.inr ⟨x.py, D.pys ys, Rel.dp x v w1 rx.rel, Rel.dp (.tup ys) w w2 ry.rel, wf_shaped w1, wf_shaped w2, by rw [eqs_pys, Bool.false_xor]; exact k (.bl _) _ rfl q⟩))
  case str s =>
    obtain ⟨t, rfl, q⟩ := q
    exact .inl (.inr ⟨t, s, rx.str, ry.str, k (.bl _) _ rfl q⟩)
  case dic ks ds =>
    obtain ⟨kk, e, q⟩ := q
    obtain ⟨a, vs, rfl, h, l, _⟩ := (show Rel F.S P H (.dic ks ds) w from ry.rel)
    have ev := key_rel e rx.rel
    subst ev
    obtain ⟨o, g, e2, _⟩ := dget_zip (P := P) (k := kk) h l
    exact .inr ⟨a, o, rfl, g, by rw [e2, Bool.false_xor]; exact k (.bl _) _ rfl q⟩
theorem o_nin : Op2 Rs F (rNinAll F.S.K) dNin := .flat fun P ρ σ H x y v w Q Q' L rx ry q k => by
  unfold dNin dInB at q
  cases y <;> try exact False.elim q
  case lst ys =>
    obtain ⟨w1', w2', q⟩ := q
    have w1 := w1'.out
    have w2 := w2'.out
    exact .inl (.inl (.inl ⟨x.py, D.pys ys, Rel.dp x v w1 rx.rel, Rel.dp (.lst ys) w w2 ry.rel, wf_shaped w1, wf_shaped w2, by rw [eqs_pys]; exact k (.bl _) _ rfl q⟩))
  case tup ys =>
    obtain ⟨w1', w2', q⟩ := q
    have w1 := w1'.out
    have w2 := w2'.out
    exact .inl (.inl (.inr ⟨x.py, D.pys ys, Rel.dp x v w1 rx.rel, Rel.dp (.tup ys) w w2 ry.rel, wf_shaped w1, wf_shaped w2, by rw [eqs_pys, Bool.true_xor]; exact k (.bl _) _ rfl q⟩))
  case str s =>
    obtain ⟨t, rfl, q⟩ := q
    exact .inl (.inr ⟨t, s, rx.str, ry.str, k (.bl _) _ rfl q⟩)
  case dic ks ds =>
    obtain ⟨kk, e, q⟩ := q
    obtain ⟨a, vs, rfl, h, l, _⟩ := (show Rel F.S P H (.dic ks ds) w from ry.rel)
    have ev := key_rel e rx.rel
    subst ev
    obtain ⟨o, g, e2, _⟩ := dget_zip (P := P) (k := kk) h l
    exact .inr ⟨a, o, rfl, g, by rw [e2, Bool.true_xor]; exact k (.bl _) _ rfl q⟩
end
/-! ### the operators, by name -/
def dSub : W2 := dI0 fun i j => .int (i - j)
def dFdiv : W2 := dI CDivW fun i j => .int (i / j)
def dMod : W2 := dI (fun _ j => 0 < j) fun i j => .int (i % j)
def dPow : W2 := dI CPow fun i j => .int (i ^ j.toNat)
def dShl : W2 := dI CPow fun i j => .int (i * 2 ^ j.toNat)
def dShr : W2 := dI (fun _ j => 0 ≤ j) fun i j => .int (i / 2 ^ j.toNat)
def dBand : W2 := dI0 fun i j => .int (Builtin.bitAnd i j)
def dBor : W2 := dI0 fun i j => .int (Builtin.bitOr i j)
def dLe : W2 := dI0 fun i j => .bl (decide (i ≤ j))
def dGt : W2 := dI0 fun i j => .bl (decide (j < i))
def dGe : W2 := dI0 fun i j => .bl (decide (j ≤ i))
section
variable {X : Cx} {F : Fr} {E : Ex → Ev → Prop} {k : Nat} {ta tb : TD} {a b : Expr} {pos : Pos}
theorem b_add (c : Cd X F E k) (ha : DB X F a ta) (hb : DB X F b tb) : DE X F (.BinOp a .Add b pos) (w2 dAdd ta tb) := d_bin (by rw [← c.hK]; exact op_addT) o_add ha hb
theorem b_sub (c : Cd X F E k) (ha : DB X F a ta) (hb : DB X F b tb) : DE X F (.BinOp a .Sub b pos) (w2 dSub ta tb) := d_bin op_sub o_sub ha hb
theorem b_mul (c : Cd X F E k) (ha : DB X F a ta) (hb : DB X F b tb) : DE X F (.BinOp a .Mult b pos) (w2 dMul ta tb) := d_bin op_mulT o_mul ha hb
theorem b_fdiv (c : Cd X F E k) (ha : DB X F a ta) (hb : DB X F b tb) : DE X F (.BinOp a .FloorDiv b pos) (w2 dFdiv ta tb) := d_bin op_fdivW o_fdiv ha hb
theorem b_mod (c : Cd X F E k) (ha : DB X F a ta) (hb : DB X F b tb) : DE X F (.BinOp a .Mod b pos) (w2 dMod ta tb) := d_bin op_mod o_mod ha hb
theorem b_pow (c : Cd X F E k) (ha : DB X F a ta) (hb : DB X F b tb) : DE X F (.BinOp a .Pow b pos) (w2 dPow ta tb) := d_bin op_pow o_pow ha hb
theorem b_shl (c : Cd X F E k) (ha : DB X F a ta) (hb : DB X F b tb) : DE X F (.BinOp a .LShift b pos) (w2 dShl ta tb) := d_bin op_shl o_shl ha hb
theorem b_shr (c : Cd X F E k) (ha : DB X F a ta) (hb : DB X F b tb) : DE X F (.BinOp a .RShift b pos) (w2 dShr ta tb) := d_bin op_shr o_shr ha hb
theorem b_band (c : Cd X F E k) (ha : DB X F a ta) (hb : DB X F b tb) : DE X F (.BinOp a .BitAnd b pos) (w2 dBand ta tb) := d_bin op_and o_band ha hb
theorem b_bor (c : Cd X F E k) (ha : DB X F a ta) (hb : DB X F b tb) : DE X F (.BinOp a .BitOr b pos) (w2 dBor ta tb) := d_bin op_or o_bor ha hb
theorem u_neg (ha : DB X F a ta) : DE X F (.UnaryOp .USub a pos) (w1 dNeg ta) := d_un un_neg o_neg ha
theorem v_eq (c : Cd X F E k) (ha : DB X F a ta) (hb : DB X F b tb) : DE X F (.Compare a [.Eq] [b] pos) (w2 dEq ta tb) := d_cmp (by rw [← c.hK]; exact op_eqD c.units64) o_eq ha hb (nomark b)
theorem v_ne (c : Cd X F E k) (ha : DB X F a ta) (hb : DB X F b tb) : DE X F (.Compare a [.NotEq] [b] pos) (w2 dNe ta tb) := d_cmp (by rw [← c.hK]; exact op_neD c.units64) o_ne ha hb (nomark b)
theorem v_lt (c : Cd X F E k) (ha : DB X F a ta) (hb : DB X F b tb) : DE X F (.Compare a [.Lt] [b] pos) (w2 dLt ta tb) := d_cmp op_ltA o_lt ha hb (nomark b)
theorem v_le (c : Cd X F E k) (ha : DB X F a ta) (hb : DB X F b tb) : DE X F (.Compare a [.LtE] [b] pos) (w2 dLe ta tb) := d_cmp op_le o_le ha hb (nomark b)
theorem v_gt (c : Cd X F E k) (ha : DB X F a ta) (hb : DB X F b tb) : DE X F (.Compare a [.Gt] [b] pos) (w2 dGt ta tb) := d_cmp op_gt o_gt ha hb (nomark b)
theorem v_ge (c : Cd X F E k) (ha : DB X F a ta) (hb : DB X F b tb) : DE X F (.Compare a [.GtE] [b] pos) (w2 dGe ta tb) := d_cmp op_ge o_ge ha hb (nomark b)
theorem v_is (c : Cd X F E k) (ha : DB X F a ta) (hb : DB X F b tb) : DE X F (.Compare a [.Is] [b] pos) (w2 dIsN ta tb) := d_cmp op_isN o_isN ha hb (nomark b)
theorem v_isnot (c : Cd X F E k) (ha : DB X F a ta) (hb : DB X F b tb) : DE X F (.Compare a [.IsNot] [b] pos) (w2 dNotN ta tb) := d_cmp op_notN o_notN ha hb (nomark b)
theorem v_in (c : Cd X F E k) (ha : DB X F a ta) (hb : DB X F b tb) (hm : behindInMarks .In b = false := by rfl) : DE X F (.Compare a [.In] [b] pos) (w2 dIn ta tb) := d_cmp (by rw [← c.hK]; exact op_inAll c.units65) o_in ha hb hm
theorem v_nin (c : Cd X F E k) (ha : DB X F a ta) (hb : DB X F b tb) (hm : behindInMarks .NotIn b = false := by rfl) : DE X F (.Compare a [.NotIn] [b] pos) (w2 dNin ta tb) := d_cmp (by rw [← c.hK]; exact op_ninAll c.units65) o_nin ha hb hm
theorem c_eq (c : Cd X F E k) (ha : DB X F a ta) (hb : DB X F b tb) : DT X F (.Compare a [.Eq] [b] pos) (wB (w2 dEq ta tb)) := dt_cmp (by rw [← c.hK]; exact op_eqD c.units64) o_eq ha hb (nomark b)
theorem c_ne (c : Cd X F E k) (ha : DB X F a ta) (hb : DB X F b tb) : DT X F (.Compare a [.NotEq] [b] pos) (wB (w2 dNe ta tb)) := dt_cmp (by rw [← c.hK]; exact op_neD c.units64) o_ne ha hb (nomark b)
theorem c_lt (c : Cd X F E k) (ha : DB X F a ta) (hb : DB X F b tb) : DT X F (.Compare a [.Lt] [b] pos) (wB (w2 dLt ta tb)) := dt_cmp op_ltA o_lt ha hb (nomark b)
theorem c_le (c : Cd X F E k) (ha : DB X F a ta) (hb : DB X F b tb) : DT X F (.Compare a [.LtE] [b] pos) (wB (w2 dLe ta tb)) := dt_cmp op_le o_le ha hb (nomark b)
theorem c_gt (c : Cd X F E k) (ha : DB X F a ta) (hb : DB X F b tb) : DT X F (.Compare a [.Gt] [b] pos) (wB (w2 dGt ta tb)) := dt_cmp op_gt o_gt ha hb (nomark b)
theorem c_ge (c : Cd X F E k) (ha : DB X F a ta) (hb : DB X F b tb) : DT X F (.Compare a [.GtE] [b] pos) (wB (w2 dGe ta tb)) := dt_cmp op_ge o_ge ha hb (nomark b)
theorem c_is (c : Cd X F E k) (ha : DB X F a ta) (hb : DB X F b tb) : DT X F (.Compare a [.Is] [b] pos) (wB (w2 dIsN ta tb)) := dt_cmp op_isN o_isN ha hb (nomark b)
theorem c_isnot (c : Cd X F E k) (ha : DB X F a ta) (hb : DB X F b tb) : DT X F (.Compare a [.IsNot] [b] pos) (wB (w2 dNotN ta tb)) := dt_cmp op_notN o_notN ha hb (nomark b)
theorem c_in (c : Cd X F E k) (ha : DB X F a ta) (hb : DB X F b tb) (hm : behindInMarks .In b = false := by rfl) : DT X F (.Compare a [.In] [b] pos) (wB (w2 dIn ta tb)) := dt_cmp (by rw [← c.hK]; exact op_inAll c.units65) o_in ha hb hm
theorem c_nin (c : Cd X F E k) (ha : DB X F a ta) (hb : DB X F b tb) (hm : behindInMarks .NotIn b = false := by rfl) : DT X F (.Compare a [.NotIn] [b] pos) (wB (w2 dNin ta tb)) := dt_cmp (by rw [← c.hK]; exact op_ninAll c.units65) o_nin ha hb hm
end
/-! ### names that the law leaves alone -/
structure BN (mg : Str → Option Value) : Prop where
  len : mg "len" = none
  range : mg "range" = none
  int : mg "int" = none
  str : mg "str" = none
  abs : mg "abs" = none
  list : mg "list" = none
  tuple : mg "tuple" = none
  any : mg "any" = none
  all : mg "all" = none
  repr : mg "repr" = none
  isinstance : mg "isinstance" = none
  bool : mg "bool" = none
  dict : mg "dict" = none
  set : mg "set" = none
  sorted : mg "sorted" = none
  zip : mg "zip" = none
  enumerate : mg "enumerate" = none
  max : mg "max" = none
  min : mg "min" = none
  sum : mg "sum" = none
  type : mg "type" = none
  super : mg "super" = none
  reversed : mg "reversed" = none
section
variable {X : Cx} {F : Fr} {E : Ex → Ev → Prop} {k : Nat} {a : Expr} {p pos : Pos} {t : TD}
theorem f_len (c : Cd X F E k) (B : BN X.mg) (ha : DB X F a t) (hg : Gl X "len" := by rfl) (he : starEach [a] X.env = (false, eval a X.env) :: starEach [] X.env := by rfl) :
    DE X F (.Call (.Name "len" p) [a] [] pos) (wN (d1 dLen) (wsCons t wsNil)) := d_callB (by rw [← c.hK]; exact call_lenT) o_len B.len (db_cons ha da_nil he) hg (by decide +kernel) (by decide) (by decide) he (by rfl)
theorem f_abs (c : Cd X F E k) (B : BN X.mg) (ha : DB X F a t) (hg : Gl X "abs" := by rfl) (he : starEach [a] X.env = (false, eval a X.env) :: starEach [] X.env := by rfl) :
    DE X F (.Call (.Name "abs" p) [a] [] pos) (wN (d1 dAbs) (wsCons t wsNil)) := d_callB call_abs o_abs B.abs (db_cons ha da_nil he) hg (by decide +kernel) (by decide) (by decide) he (by rfl)
theorem f_repr (c : Cd X F E k) (B : BN X.mg) (ha : DB X F a t) (hg : Gl X "repr" := by rfl) (he : starEach [a] X.env = (false, eval a X.env) :: starEach [] X.env := by rfl) :
    DE X F (.Call (.Name "repr" p) [a] [] pos) (wN (d1 dRepr) (wsCons t wsNil)) := d_callB (by rw [← c.hK]; exact call_reprD c.gu c.units70) o_repr B.repr (db_cons ha da_nil he) hg (by decide +kernel) (by decide) (by decide) he (by rfl)
theorem f_any (c : Cd X F E k) (B : BN X.mg) (ha : DB X F a t) (hg : Gl X "any" := by rfl) (he : starEach [a] X.env = (false, eval a X.env) :: starEach [] X.env := by rfl) :
    DE X F (.Call (.Name "any" p) [a] [] pos) (wN (d1 dAny) (wsCons t wsNil)) := d_callB (by rw [← c.hK]; exact cr_any c.calm) o_any B.any (db_cons ha da_nil he) hg (by decide +kernel) (by decide) (by decide) he (by rfl)
theorem f_all (c : Cd X F E k) (B : BN X.mg) (ha : DB X F a t) (hg : Gl X "all" := by rfl) (he : starEach [a] X.env = (false, eval a X.env) :: starEach [] X.env := by rfl) :
    DE X F (.Call (.Name "all" p) [a] [] pos) (wN (d1 dAll) (wsCons t wsNil)) := d_callB (by rw [← c.hK]; exact cr_all c.calm) o_all B.all (db_cons ha da_nil he) hg (by decide +kernel) (by decide) (by decide) he (by rfl)
theorem f_int (c : Cd X F E k) (B : BN X.mg) (ha : DB X F a t) (hg : Gl X "int" := by rfl) (he : starEach [a] X.env = (false, eval a X.env) :: starEach [] X.env := by rfl) :
    DE X F (.Call (.Name "int" p) [a] [] pos) (wN (d1 dInt) (wsCons t wsNil)) := d_callTy call_int1 o_int B.int (db_cons ha da_nil he) hg (by decide +kernel) (by decide) (by decide) he (by rfl)
theorem f_str (c : Cd X F E k) (B : BN X.mg) (ha : DB X F a t) (hg : Gl X "str" := by rfl) (he : starEach [a] X.env = (false, eval a X.env) :: starEach [] X.env := by rfl) :
    DE X F (.Call (.Name "str" p) [a] [] pos) (wN (d1 dStr) (wsCons t wsNil)) := d_callTy call_strT o_str B.str (db_cons ha da_nil he) hg (by decide +kernel) (by decide) (by decide) he (by rfl)
theorem f_list (c : Cd X F E k) (B : BN X.mg) (ha : DB X F a t) (hg : Gl X "list" := by rfl) (he : starEach [a] X.env = (false, eval a X.env) :: starEach [] X.env := by rfl) :
    DF X F (.Call (.Name "list" p) [a] [] pos) (wN (d1 dList) (wsCons t wsNil)) := d_callTy (by rw [← c.hK]; exact call_list_of) o_list B.list (db_cons ha da_nil he) hg (by decide +kernel) (by decide) (by decide) he (by rfl)
theorem f_tuple (c : Cd X F E k) (B : BN X.mg) (ha : DB X F a t) (hg : Gl X "tuple" := by rfl) (he : starEach [a] X.env = (false, eval a X.env) :: starEach [] X.env := by rfl) :
    DE X F (.Call (.Name "tuple" p) [a] [] pos) (wN (d1 dTuple) (wsCons t wsNil)) := d_callTy (by rw [← c.hK]; exact call_tuple_of) o_tuple B.tuple (db_cons ha da_nil he) hg (by decide +kernel) (by decide) (by decide) he (by rfl)
end
end DL
namespace DL
open PySem PySem.Spec PyProof.Rows L2
/-! ### plain laws -/
section
variable {tb : TDS} {g : TDg} {D : En}
theorem forL0_rem (I : Nat → Ev → Prop) : ∀ (xs : List DL.D) (ρ : Ev), I xs.length ρ → (∀ ρ, I 0 ρ → D.nx ρ) →
    (∀ x ∈ xs, ∀ (n : Nat) (K : Ev → Prop) (ρ : Ev), (∀ ρ', I n ρ' → K ρ') → I (n + 1) ρ → n < xs.length → g x ρ fun ρ1 => tb { D with nx := K, ct := K, bk := D.nx } ρ1) → forL0 tb g D xs ρ := by
  intro xs
  have key : ∀ (ys : List DL.D) (ρ : Ev), (∀ y ∈ ys, y ∈ xs) → ys.length ≤ xs.length → I ys.length ρ → (∀ ρ, I 0 ρ → D.nx ρ) →
      (∀ x ∈ xs, ∀ (n : Nat) (K : Ev → Prop) (ρ : Ev), (∀ ρ', I n ρ' → K ρ') → I (n + 1) ρ → n < xs.length → g x ρ fun ρ1 => tb { D with nx := K, ct := K, bk := D.nx } ρ1) → forL0 tb g D ys ρ := by
    intro ys
    induction ys with
    | nil => intro ρ _ _ i f _; exact f ρ i
    | cons y ys ih =>
      intro ρ m l i f h
      rw [List.length_cons] at l
      exact h y (m y (by simp)) ys.length _ ρ (fun ρ' i' => ih ρ' (fun z hz => m z (by simp [hz])) (by omega) i' f h) i (by omega)
  exact fun ρ i f h => key xs ρ (fun _ z => z) (Nat.le_refl _) i f h
/-- by what is done and what is left -/
theorem forL0_at (I : List DL.D → List DL.D → Ev → Prop) : ∀ (xs done : List DL.D) (ρ : Ev), I done xs ρ → (∀ ρ, I (done ++ xs) [] ρ → D.nx ρ) →
    (∀ (d : List DL.D) (x : DL.D) (r : List DL.D) (K : Ev → Prop) (ρ : Ev), (∀ ρ', I (d ++ [x]) r ρ' → K ρ') → I d (x :: r) ρ → g x ρ fun ρ1 => tb { D with nx := K, ct := K, bk := D.nx } ρ1) → forL0 tb g D xs ρ := by
  intro xs
  induction xs with
  | nil => intro d ρ i f _; exact f ρ (by rw [List.append_nil]; exact i)
  | cons x xs ih =>
    intro d ρ i f h
    exact h d x xs _ ρ (fun ρ' i' => ih (d ++ [x]) ρ' i' (fun ρ2 i2 => f ρ2 (by simpa using i2)) h) i
end
section
variable {g : TDg} {tt : TDt} {te : TD} {ws : List Nat} {sl : List Slot} {Q : List D → Nat → Prop}
theorem lcL0_rem (I : List D → List D → Nat → Prop) : ∀ (xs acc : List D) (b : Nat), I acc xs b → (∀ acc b, I acc [] b → Q acc b) →
    (∀ (acc : List D) (x : D) (r : List D) (b : Nat) (K : List D → Nat → Prop), (∀ acc' b', I acc' r b' → K acc' b') → I acc (x :: r) b →
      g x ⟨b, wipeE sl ws⟩ fun ρ1 => tt ρ1 fun k ρ2 => dIte k (te ρ2 fun y ρ3 => acc.length < SZ ∧ K (acc ++ [y]) ρ3.bud) (K acc ρ2.bud)) → lcL0 g tt te ws sl Q xs acc b
  | [], acc, b, i, f, _ => f acc b i
  | x :: xs, acc, b, i, f, h => h acc x xs b (fun acc b => lcL0 g tt te ws sl Q xs acc b) (fun acc' b' i' => lcL0_rem I xs acc' b' i' f h) i
/-- a comprehension that draws nothing -/
theorem lcL0_fm (p : D → Bool) (f : D → D) (b : Nat) : ∀ (xs acc : List D), acc.length + xs.length ≤ SZ →
    (∀ x ∈ xs, ∀ (K : D → Ev → Prop) (L : Ev → Prop), (p x = true → ∀ s, K (f x) ⟨b, s⟩) → (p x = false → ∀ s, L ⟨b, s⟩) → g x ⟨b, wipeE sl ws⟩ fun ρ1 => tt ρ1 fun k ρ2 => dIte k (te ρ2 K) (L ρ2)) →
    Q (acc ++ (xs.filter p).map f) b → lcL0 g tt te ws sl Q xs acc b
  | [], acc, _, _, q => by simpa [lcL0] using q
  | x :: xs, acc, l, h, q => by
    rw [List.length_cons] at l
    refine h x (by simp) _ _ (fun e s => ⟨by omega, ?_⟩) fun e s => ?_
    · refine lcL0_fm p f b xs _ (by simp; omega) (fun y hy => h y (by simp [hy])) ?_
      simpa [List.filter_cons, e] using q
    · refine lcL0_fm p f b xs _ (by omega) (fun y hy => h y (by simp [hy])) ?_
      simpa [List.filter_cons, e] using q
theorem lcL0_map (f : D → D) (b : Nat) (xs acc : List D) (l : acc.length + xs.length ≤ SZ)
    (h : ∀ x ∈ xs, ∀ (K : D → Ev → Prop) (L : Ev → Prop), (∀ s, K (f x) ⟨b, s⟩) → g x ⟨b, wipeE sl ws⟩ fun ρ1 => tt ρ1 fun k ρ2 => dIte k (te ρ2 K) (L ρ2)) (q : Q (acc ++ xs.map f) b) : lcL0 g tt te ws sl Q xs acc b :=
  lcL0_fm (fun _ => true) f b xs acc l (fun x hx K L k1 _ => h x hx K L (k1 rfl)) (by rw [List.filter_eq_self.mpr fun _ _ => rfl]; exact q)
end
section
variable {tb : TDS} {g : TDg} {D : En}
/-- K: on to the next one, R: back, B: behind the loop -/
theorem forL_rem (I : Nat → Ev → Prop) (xs : List DL.D) (ρ : Ev) (h0 : I xs.length ρ) (h1 : ∀ ρ, I 0 ρ → D.nx ρ)
    (h : ∀ x ∈ xs, ∀ (n : Nat) (K : Ev → Prop) (R : DL.D → Ev → Prop) (B : Ev → Prop) (ρ : Ev), (∀ ρ', I n ρ' → K ρ') → (∀ d ρ', D.rt d ρ' → R d ρ') → (∀ ρ', D.nx ρ' → B ρ') → I (n + 1) ρ → n < xs.length → g x ρ fun ρ1 => tb ⟨K, R, B, K⟩ ρ1) : forL tb g D xs ρ :=
  forL_of (forL0_rem I xs ρ h0 h1 fun x hx n K ρ k i l => h x hx n K D.rt D.nx ρ k (fun _ _ z => z) (fun _ z => z) i l)
theorem forL_at (I : List DL.D → List DL.D → Ev → Prop) (xs done : List DL.D) (ρ : Ev) (h0 : I done xs ρ) (h1 : ∀ ρ, I (done ++ xs) [] ρ → D.nx ρ)
    (h : ∀ (d : List DL.D) (x : DL.D) (r : List DL.D) (K : Ev → Prop) (R : DL.D → Ev → Prop) (B : Ev → Prop) (ρ : Ev), (∀ ρ', I (d ++ [x]) r ρ' → K ρ') → (∀ d ρ', D.rt d ρ' → R d ρ') → (∀ ρ', D.nx ρ' → B ρ') → I d (x :: r) ρ → g x ρ fun ρ1 => tb ⟨K, R, B, K⟩ ρ1) : forL tb g D xs ρ :=
  forL_of (forL0_at I xs done ρ h0 h1 fun d x r K ρ k i => h d x r K D.rt D.nx ρ k (fun _ _ z => z) (fun _ z => z) i)
theorem forL_nil {ρ : Ev} (h : D.nx ρ) : forL tb g D [] ρ := forL_of h
theorem forL_cons {x : DL.D} {xs : List DL.D} {ρ : Ev} (h : ∀ (K : Ev → Prop) (R : DL.D → Ev → Prop) (B : Ev → Prop), (∀ ρ', forL tb g D xs ρ' → K ρ') → (∀ d ρ', D.rt d ρ' → R d ρ') → (∀ ρ', D.nx ρ' → B ρ') → g x ρ fun ρ1 => tb ⟨K, R, B, K⟩ ρ1) : forL tb g D (x :: xs) ρ :=
  forL_of (h _ _ _ (fun _ z => forL_out z) (fun _ _ z => z) fun _ z => z)
end
section
variable {g : TDg} {tt : TDt} {te : TD} {ws : List Nat} {sl : List Slot} {Q : List D → Nat → Prop}
theorem lcL_rem (I : List D → List D → Nat → Prop) (xs acc : List D) (b : Nat) (h0 : I acc xs b) (h1 : ∀ acc b, I acc [] b → Q acc b)
    (h : ∀ (acc : List D) (x : D) (r : List D) (b : Nat) (K : List D → Nat → Prop), (∀ acc' b', I acc' r b' → K acc' b') → I acc (x :: r) b →
      g x ⟨b, wipeE sl ws⟩ fun ρ1 => tt ρ1 fun k ρ2 => dIte k (te ρ2 fun y ρ3 => acc.length < SZ ∧ K (acc ++ [y]) ρ3.bud) (K acc ρ2.bud)) : lcL g tt te ws sl Q xs acc b := lcL_of (lcL0_rem I xs acc b h0 h1 h)
theorem lcL_fm (p : D → Bool) (f : D → D) (b : Nat) (xs acc : List D) (hl : acc.length + xs.length ≤ SZ)
    (h : ∀ x ∈ xs, ∀ (K : D → Ev → Prop) (L : Ev → Prop), (p x = true → ∀ s, K (f x) ⟨b, s⟩) → (p x = false → ∀ s, L ⟨b, s⟩) → g x ⟨b, wipeE sl ws⟩ fun ρ1 => tt ρ1 fun k ρ2 => dIte k (te ρ2 K) (L ρ2))
    (q : Q (acc ++ (xs.filter p).map f) b) : lcL g tt te ws sl Q xs acc b := lcL_of (lcL0_fm p f b xs acc hl h q)
theorem lcL_map (f : D → D) (b : Nat) (xs acc : List D) (l : acc.length + xs.length ≤ SZ)
    (h : ∀ x ∈ xs, ∀ (K : D → Ev → Prop) (L : Ev → Prop), (∀ s, K (f x) ⟨b, s⟩) → g x ⟨b, wipeE sl ws⟩ fun ρ1 => tt ρ1 fun k ρ2 => dIte k (te ρ2 K) (L ρ2)) (q : Q (acc ++ xs.map f) b) : lcL g tt te ws sl Q xs acc b := lcL_of (lcL0_map f b xs acc l h q)
end
/-! ### == -/
def D.eqbs (xs ys : List D) : Bool := PyData.eqvAll (D.pys xs) (D.pys ys)
section
variable (i j : Int) (a b : Bool) (s t : Str) (xs ys : List D) (x y : D)
@[simp] theorem eqb_int : D.eqb (.int i) (.int j) = (i == j) := by simp [D.eqb, D.py, PyData.eqv]
@[simp] theorem eqb_str : D.eqb (.str s) (.str t) = (s == t) := by simp [D.eqb, D.py, PyData.eqv]
@[simp] theorem eqb_bl : D.eqb (.bl a) (.bl b) = (a == b) := by simp [D.eqb, D.py, PyData.eqv]
@[simp] theorem eqb_non : D.eqb .non .non = true := by simp [D.eqb, D.py, PyData.eqv]
@[simp] theorem eqb_lst : D.eqb (.lst xs) (.lst ys) = D.eqbs xs ys := by simp [D.eqb, D.eqbs, D.py, PyData.eqv]
@[simp] theorem eqb_tup : D.eqb (.tup xs) (.tup ys) = D.eqbs xs ys := by simp [D.eqb, D.eqbs, D.py, PyData.eqv]
@[simp] theorem eqb_ns : D.eqb .non (.str t) = false := by simp [D.eqb, D.py, PyData.eqv]
@[simp] theorem eqb_ni : D.eqb .non (.int i) = false := by simp [D.eqb, D.py, PyData.eqv]
@[simp] theorem eqb_nb : D.eqb .non (.bl a) = false := by simp [D.eqb, D.py, PyData.eqv]
@[simp] theorem eqb_nl : D.eqb .non (.lst xs) = false := by simp [D.eqb, D.py, PyData.eqv]
@[simp] theorem eqb_nt : D.eqb .non (.tup xs) = false := by simp [D.eqb, D.py, PyData.eqv]
@[simp] theorem eqb_sn : D.eqb (.str s) .non = false := by simp [D.eqb, D.py, PyData.eqv]
@[simp] theorem eqb_si : D.eqb (.str s) (.int i) = false := by simp [D.eqb, D.py, PyData.eqv]
@[simp] theorem eqb_sb : D.eqb (.str s) (.bl a) = false := by simp [D.eqb, D.py, PyData.eqv]
@[simp] theorem eqb_sl : D.eqb (.str s) (.lst xs) = false := by simp [D.eqb, D.py, PyData.eqv]
@[simp] theorem eqb_st : D.eqb (.str s) (.tup xs) = false := by simp [D.eqb, D.py, PyData.eqv]
@[simp] theorem eqb_in : D.eqb (.int i) .non = false := by simp [D.eqb, D.py, PyData.eqv]
@[simp] theorem eqb_is : D.eqb (.int i) (.str s) = false := by simp [D.eqb, D.py, PyData.eqv]
@[simp] theorem eqb_ib : D.eqb (.int i) (.bl a) = (i == if a then 1 else 0) := by simp [D.eqb, D.py, PyData.eqv]
@[simp] theorem eqb_il : D.eqb (.int i) (.lst xs) = false := by simp [D.eqb, D.py, PyData.eqv]
@[simp] theorem eqb_it : D.eqb (.int i) (.tup xs) = false := by simp [D.eqb, D.py, PyData.eqv]
@[simp] theorem eqb_bn : D.eqb (.bl a) .non = false := by simp [D.eqb, D.py, PyData.eqv]
@[simp] theorem eqb_bs : D.eqb (.bl a) (.str s) = false := by simp [D.eqb, D.py, PyData.eqv]
@[simp] theorem eqb_bi : D.eqb (.bl a) (.int i) = ((if a then 1 else 0) == i) := by simp [D.eqb, D.py, PyData.eqv]
@[simp] theorem eqb_bL : D.eqb (.bl a) (.lst xs) = false := by simp [D.eqb, D.py, PyData.eqv]
@[simp] theorem eqb_bt : D.eqb (.bl a) (.tup xs) = false := by simp [D.eqb, D.py, PyData.eqv]
@[simp] theorem eqb_ln : D.eqb (.lst xs) .non = false := by simp [D.eqb, D.py, PyData.eqv]
@[simp] theorem eqb_ls : D.eqb (.lst xs) (.str s) = false := by simp [D.eqb, D.py, PyData.eqv]
@[simp] theorem eqb_li : D.eqb (.lst xs) (.int i) = false := by simp [D.eqb, D.py, PyData.eqv]
@[simp] theorem eqb_lb : D.eqb (.lst xs) (.bl a) = false := by simp [D.eqb, D.py, PyData.eqv]
@[simp] theorem eqb_lt : D.eqb (.lst xs) (.tup ys) = false := by simp [D.eqb, D.py, PyData.eqv]
@[simp] theorem eqb_tn : D.eqb (.tup xs) .non = false := by simp [D.eqb, D.py, PyData.eqv]
@[simp] theorem eqb_ts : D.eqb (.tup xs) (.str s) = false := by simp [D.eqb, D.py, PyData.eqv]
@[simp] theorem eqb_ti : D.eqb (.tup xs) (.int i) = false := by simp [D.eqb, D.py, PyData.eqv]
@[simp] theorem eqb_tb : D.eqb (.tup xs) (.bl a) = false := by simp [D.eqb, D.py, PyData.eqv]
@[simp] theorem eqb_tl : D.eqb (.tup xs) (.lst ys) = false := by simp [D.eqb, D.py, PyData.eqv]
@[simp] theorem eqbs_nil : D.eqbs [] [] = true := by simp [D.eqbs, D.pys, PyData.eqvAll]
@[simp] theorem eqbs_nc : D.eqbs [] (y :: ys) = false := by simp [D.eqbs, D.pys, PyData.eqvAll]
@[simp] theorem eqbs_cn : D.eqbs (x :: xs) [] = false := by simp [D.eqbs, D.pys, PyData.eqvAll]
@[simp] theorem eqbs_cc : D.eqbs (x :: xs) (y :: ys) = (D.eqb x y && D.eqbs xs ys) := by simp [D.eqbs, D.eqb, D.pys, PyData.eqvAll]
end
@[simp] theorem eqbs_ints : ∀ (as bs : List Int), D.eqbs (as.map D.int) (bs.map D.int) = (as == bs)
  | [], [] => by simp
  | [], b :: bs => by simp
  | a :: as, [] => by simp
  | a :: as, b :: bs => by simp [eqbs_ints as bs]
@[simp] theorem eqbs_intsN (as : List Int) : D.eqbs (as.map D.int) [] = as.isEmpty := by cases as <;> simp
@[simp] theorem eqbs_strs : ∀ (as bs : List Str), D.eqbs (as.map D.str) (bs.map D.str) = (as == bs)
  | [], [] => by simp
  | [], b :: bs => by simp
  | a :: as, [] => by simp
  | a :: as, b :: bs => by simp [eqbs_strs as bs]
/-! ### texts, depths -/
section
variable (n : Nat) (i : Int) (b : Bool) (s : Str) (x : D) (xs : List D)
@[simp] theorem wf_int : D.wf n (.int i) = true := by cases n <;> rfl
@[simp] theorem wf_bl : D.wf n (.bl b) = true := by cases n <;> rfl
@[simp] theorem wf_non : D.wf n .non = true := by cases n <;> rfl
@[simp] theorem wf_str : D.wf n (.str s) = PyData.strOk s := by cases n <;> rfl
@[simp] theorem wf_lst : D.wf (n + 1) (.lst xs) = D.wfs n xs := rfl
@[simp] theorem wf_tup : D.wf (n + 1) (.tup xs) = D.wfs n xs := rfl
@[simp] theorem wfs_nil : D.wfs n [] = true := rfl
@[simp] theorem wfs_cons : D.wfs n (x :: xs) = (D.wf n x && D.wfs n xs) := rfl
@[simp] theorem wfs_ints : ∀ (as : List Int), D.wfs n (as.map D.int) = true
  | [] => rfl
  | a :: as => by simp [wfs_ints as]
end
theorem wn_lst {n : Nat} {xs : List D} (h : WfsN n xs) : WfN (n + 1) (.lst xs) := .of h.out
theorem wn_tup {n : Nat} {xs : List D} (h : WfsN n xs) : WfN (n + 1) (.tup xs) := .of h.out
theorem wn_int {n : Nat} {i : Int} : WfN n (.int i) := .of (wf_int n i)
theorem wn_bl {n : Nat} {i : Bool} : WfN n (.bl i) := .of (wf_bl n i)
theorem wn_non {n : Nat} : WfN n .non := .of (wf_non n)
theorem wn_str {n : Nat} {s : Str} (h : PyData.strOk s = true) : WfN n (.str s) := .of (by simp [h])
theorem wn_nil {n : Nat} : WfsN n [] := .of rfl
theorem wn_cons {n : Nat} {x : D} {xs : List D} (h : WfN n x) (h2 : WfsN n xs) : WfsN n (x :: xs) := .of (by simp [h.out, h2.out])
theorem wn_ints {n : Nat} {as : List Int} : WfsN n (as.map D.int) := .of (wfs_ints n as)
theorem wn_all {n : Nat} {xs : List D} (h : ∀ x ∈ xs, WfN n x) : WfsN n xs := .of (wfs_all.mpr fun x hx => (h x hx).out)
theorem rep_bl {b : Bool} : RepOk (.bl b) := .of (by cases b <;> exact ⟨rfl, by decide⟩)
theorem rep_non : RepOk .non := .of ⟨rfl, by decide⟩
/-! ### arithmetic -/
@[simp] theorem cmulT_l {i j : Int} (h : -(2 ^ 64) < i ∧ i < 2 ^ 64) : CMulT i j := .inl (.inl h)
theorem cmulT_r {i j : Int} (h : -(2 ^ 64) < j ∧ j < 2 ^ 64) : CMulT i j := .inl (.inr h)
@[simp] theorem evput (b : Nat) (sl : List Slot) (i : Nat) (s : Slot) : Ev.put ⟨b, sl⟩ i s = ⟨b, sl.set i s⟩ := rfl
@[simp] theorem start0 (N : List Str) : startD N [] = List.replicate N.length .un := by simp [startD]
theorem startD_eq (N : List Str) (ds : List D) : startD N ds = ds.map Slot.sh ++ List.replicate (N.length - ds.length) .un := rfl
end DL
namespace DL
theorem mul_bd {a b A B : Int} (ha : 0 ≤ a) (ha2 : a ≤ A) (hb : 0 ≤ b) (hb2 : b ≤ B) : 0 ≤ a * b ∧ a * b ≤ A * B := ⟨Int.mul_nonneg ha hb, Int.mul_le_mul ha2 hb2 hb (Int.le_trans ha ha2)⟩
end DL
namespace DL
open L2
theorem log2_sz {n : Nat} (h : n ≤ SZ) : (n : Int).natAbs.log2 < 9000 := by
  rw [Int.natAbs_natCast]
  by_cases z : n = 0
  · subst z; decide
  · rw [Nat.log2_lt z]
    exact Nat.lt_of_le_of_lt h (Nat.lt_of_lt_of_le (by decide : SZ < 2 ^ 20) (Nat.pow_le_pow_right (by decide) (by decide)))
theorem dAt_all {α : Type} {xs : List α} {i : Int} {Q : α → Prop} (h0 : 0 ≤ i) (h1 : i < xs.length) (h : ∀ x ∈ xs, Q x) : dAt xs i Q := by
  obtain ⟨n, rfl⟩ := Int.eq_ofNat_of_zero_le h0
  have hn : n < xs.length := by omega
  exact dAt_nat (d := xs[n]) (by simp [hn]) (h _ (List.getElem_mem hn))
end DL
namespace DL
open PySem PySem.Spec PyProof.Rows L2
theorem seq_asg {i : Nat} {t : TD} {u : TDS} {D : En} {ρ : Ev} (h : t ρ fun d ρ1 => u D (ρ1.put i (.sh d))) : wSeq (wAsg i t) u D ρ := h
theorem seq_i {t u : TDS} {D : En} {ρ : Ev} (h : t { D with nx := u D } ρ) : wSeq t u D ρ := h
theorem wn_shb {n : Nat} {b : Bool} : WfN n (.str (D.bl b).py.shown) := wn_str (by cases b <;> decide +kernel)
end DL
namespace DL
open PySem PySem.Spec PyProof.Rows L2
theorem _root_.L2.Fun.uniq {K : PySem.W.Frag} {x q : Str} {st : Stmt} {f : Addr} {fd gd : FuncData} (a : Fun K x q st f fd) (b : Fun K x q st f gd) : fd = gd := by
  obtain ⟨oc, od, kV, doc, pm, an, cdv, ct, osl, e, l, _⟩ := a.ex
  obtain ⟨oc', od', kV', doc', pm', an', cdv', ct', osl', e', l', _⟩ := b.ex
  rw [l'] at l
  injection l with l
  injection l with _ _ l _
  injection l with l
  exact l.symm
end DL
namespace Lw
open PySem PySem.Spec PyProof.Rows L2 DL
def isNum : D → Bool
  | .int _ => true
  | _ => false
def okv : D → Bool
  | .obj _ _ => false
  | .exc _ _ => false
  | .scr _ => false
  | _ => true
def top (i : Nat) : Stmt := PySem.Challenge.pw_roomstair_k02_plain_checks.main.body.getD i (.Pass ⟨0, 0, 0, 0⟩)
/-! ### _law_gauge -/
abbrev s_qgauge : Stmt := top 4
abbrev N_qgauge : List Str := ["_law_script", "_law_cell"]
theorem sc_qgauge : FnScope N_qgauge ["_law_script"] (defScope s_qgauge) := ⟨rfl, rfl, rfl, by decide +kernel, rfl, by decide +kernel, by decide +kernel⟩
def t_qgauge (E : Ex → Ev → Prop) : TDS :=
    (wRet (wPen (wsCons (wLc (wIt (wSl (wBor 0) wNoP (wPart (wC (.int 60))))) (gNm 1) wYes (wN (d1 dInt) (wsCons (wBor 1) wsNil)) [1]) (wsCons (wC (.int 0)) (wsCons (wC (.int 0)) wsNil)))))
def sp_qgauge : DSp := ⟨1, 0, fun ds Q _ => ∃ ns, ds = [.scr ns] ∧ ns.length ≤ 63 ∧ Q .pen⟩
@[simp] theorem spc_qgauge : sp_qgauge.cost = 0 := rfl
/-! ### _law_notch -/
abbrev s_qnotch : Stmt := top 5
abbrev N_qnotch : List Str := ["_law_gauge_here", "_law_many", "_law_at", "_law_cell", "_law_mixed", "_law_rest"]
theorem sc_qnotch : FnScope N_qnotch ["_law_gauge_here", "_law_many"] (defScope s_qnotch) := ⟨rfl, rfl, rfl, by decide +kernel, rfl, by decide +kernel, by decide +kernel⟩
def t_qnotch : TDS :=
    (wSeq (wIfS (wB (w2 dEq (w2 dIx (wBor 0) (wC (.int 0))) (wLst wsNil))) (wRet (wC (.int 0))) wNext)
    (wSeq (wIfS (wB (w2 dGt (w2 dIx (wBor 0) (wC (.int 2))) (wC (.int 0)))) (wSeq (wAsg 5 (wN (d1 dInt) (wsCons (w2 dIx (wBor 0) (wC (.int 2))) wsNil)))
      (wSeq (wSetIx 0 (wC (.int 2)) (w2 dFdiv (wBor 5) (wBor 1)))
      (wRet (w2 dMod (wN (d1 dInt) (wsCons (wBor 5) wsNil)) (wBor 1))))) wNext)
    (wSeq (wAsg 2 (w2 dIx (wBor 0) (wC (.int 1))))
    (wSeq (wSetIx 0 (wC (.int 1)) (w2 dAdd (wBor 2) (wC (.int 1))))
    (wSeq (wAsg 3 (w2 dIx (w2 dIx (wBor 0) (wC (.int 0))) (w2 dMod (wN (d1 dInt) (wsCons (wBor 2) wsNil)) (wN (d1 dLen) (wsCons (w2 dIx (wBor 0) (wC (.int 0))) wsNil)))))
    (wSeq (wIfS (wAnd (wB (w2 dLt (wBor 2) (wN (d1 dLen) (wsCons (w2 dIx (wBor 0) (wC (.int 0))) wsNil)))) (wB (w2 dGe (wN (d1 dAbs) (wsCons (wBor 3) wsNil)) (w2 dPow (wC (.int 10)) (wC (.int 18)))))) (wSeq (wAsg 5 (w2 dAdd (w2 dMul (wC (.int 2)) (w2 dSub (wN (d1 dAbs) (wsCons (wBor 3) wsNil)) (w2 dPow (wC (.int 10)) (wC (.int 18))))) (wN (d1 dInt) (wsCons (w2 dLt (wBor 3) (wC (.int 0))) wsNil))))
      (wSeq (wSetIx 0 (wC (.int 2)) (w2 dFdiv (wN (d1 dInt) (wsCons (wBor 5) wsNil)) (wBor 1)))
      (wRet (w2 dMod (wN (d1 dInt) (wsCons (wBor 5) wsNil)) (wBor 1))))) wNext)
    (wSeq (wAsg 4 (w2 dMod (wN (d1 dInt) (wsCons (w2 dPow (w2 dAdd (w2 dAdd (w2 dMod (wN (d1 dInt) (wsCons (wBor 3) wsNil)) (wC (.int 2147483587))) (w2 dMul (wC (.int 71167)) (wBor 2))) (wC (.int 3323))) (wC (.int 5))) wsNil)) (wC (.int 2147483629))))
    (wSeq (wAsg 4 (w2 dMod (wN (d1 dInt) (wsCons (w2 dPow (w2 dAdd (w2 dAdd (w2 dMul (wBor 4) (w2 dAdd (w2 dMul (wC (.int 2)) (wBor 2)) (wC (.int 5527)))) (w2 dMul (w2 dMul (wC (.int 60923)) (wBor 2)) (wBor 2))) (wC (.int 71167))) (wC (.int 3))) wsNil)) (wC (.int 2147483497))))
    (wRet (w2 dMod (wN (d1 dInt) (wsCons (w2 dFdiv (wBor 4) (wC (.int 64))) wsNil)) (wBor 1)))))))))))
@[simp] theorem spc_qnotch : spDraw.cost = 1 := rfl
abbrev sp_qnotch : DSp := spDraw
/-! ### _law_one -/
abbrev s_qone : Stmt := top 6
abbrev N_qone : List Str := ["_law_gauge_here", "_law_some"]
theorem sc_qone : FnScope N_qone ["_law_gauge_here", "_law_some"] (defScope s_qone) := ⟨rfl, rfl, rfl, by decide +kernel, rfl, by decide +kernel, by decide +kernel⟩
def t_qone (E : Ex → Ev → Prop) : TDS :=
    (wRet (w2 dIx (wBor 1) (wCall sp_qnotch E 2 [0, 1] [] (wsCons (wVar 0) (wsCons (wN (d1 dLen) (wsCons (wBor 1) wsNil)) wsNil)))))
def sp_qone : DSp := ⟨2, 1, fun ds Q _ => ∃ xs, ds = [.pen, .lst xs] ∧ 0 < xs.length ∧ xs.length ≤ SZ ∧ ∀ x ∈ xs, Q x⟩
@[simp] theorem spc_qone : sp_qone.cost = 1 := rfl
/-! ### _law_odd -/
abbrev s_qodd : Stmt := top 8
abbrev N_qodd : List Str := ["_law_gauge_here", "_law_number"]
theorem sc_qodd : FnScope N_qodd ["_law_gauge_here"] (defScope s_qodd) := ⟨rfl, rfl, rfl, by decide +kernel, rfl, by decide +kernel, by decide +kernel⟩
def t_qodd (E : Ex → Ev → Prop) : TDS :=
    (wSeq (wAsg 1 (wCall sp_qone E 2 [0, 1] [] (wsCons (wVar 0) (wsCons (wLst (wsCons (wC (.int 0)) (wsCons (wC (.int 1)) (wsCons (wC (.int 2)) (wsCons (wC (.int 5)) (wsCons (wC (.int 6)) (wsCons (w1 dNeg (wC (.int 1))) (wsCons (w2 dPow (wC (.int 10)) (wC (.int 40))) (wsCons (w1 dNeg (w2 dPow (wC (.int 10)) (wC (.int 30)))) (wsCons (wCall sp_qnotch E 2 [0, 1] [] (wsCons (wVar 0) (wsCons (wC (.int 9000)) wsNil))) wsNil)))))))))) wsNil))))
    (wRet (wCall sp_qone E 2 [0, 1] [] (wsCons (wVar 0) (wsCons (wLst (wsCons (wVar 1) (wsCons (wVar 1) (wsCons (wC .non) (wsCons (wC (.bl true)) (wsCons (wC (.bl false)) (wsCons (wN (d1 dStr) (wsCons (wBor 1) wsNil)) (wsCons (wLst (wsCons (wVar 1) wsNil)) (wsCons (wTup (wsCons (wVar 1) wsNil)) (wsCons wDic0 (wsCons (wDic (wpCons (wVar 1) (wC (.int 1)) wpNil)) (wsCons (wC (.str "")) (wsCons (wC (.str "+")) (wsCons (wLst wsNil) (wsCons (wTup wsNil) wsNil))))))))))))))) wsNil)))))
def sp_qodd : DSp := ⟨1, 3, fun ds Q _ => ds = [.pen] ∧ ∀ d, okv d = true → Q d⟩
@[simp] theorem spc_qodd : sp_qodd.cost = 3 := rfl
/-! ### _law_is_number -/
abbrev s_qis_number : Stmt := top 7
abbrev N_qis_number : List Str := ["_law_value"]
theorem sc_qis_number : FnScope N_qis_number ["_law_value"] (defScope s_qis_number) := ⟨rfl, rfl, rfl, by decide +kernel, rfl, by decide +kernel, by decide +kernel⟩
def t_qis_number (E : Ex → Ev → Prop) : TDS :=
    (wRet (wAndV (wIsi .int (wBor 0)) (wNotV (wIsi .bl (wBor 0)))))
def sp_qis_number : DSp := ⟨1, 0, fun ds Q _ => ∃ v, ds = [v] ∧ okv v = true ∧ Q (.bl (isNum v))⟩
@[simp] theorem spc_qis_number : sp_qis_number.cost = 0 := rfl
/-! ### is_integer -/
abbrev s_is_integer : Stmt := top 1
abbrev N_is_integer : List Str := ["value"]
theorem sc_is_integer : FnScope N_is_integer ["value"] (defScope s_is_integer) := ⟨rfl, rfl, rfl, by decide +kernel, rfl, by decide +kernel, by decide +kernel⟩
def t_is_integer (E : Ex → Ev → Prop) : TDS :=
    (wRet (wAndV (wIsi .int (wBor 0)) (wNotV (wIsi .bl (wBor 0)))))
def sp_is_integer : DSp := ⟨1, 0, fun ds Q _ => ∃ v, ds = [v] ∧ okv v = true ∧ Q (.bl (isNum v))⟩
@[simp] theorem spc_is_integer : sp_is_integer.cost = 0 := rfl
/-! ### is_within -/
abbrev s_is_within : Stmt := top 2
abbrev N_is_within : List Str := ["value", "least", "most"]
theorem sc_is_within : FnScope N_is_within ["value", "least", "most"] (defScope s_is_within) := ⟨rfl, rfl, rfl, by decide +kernel, rfl, by decide +kernel, by decide +kernel⟩
def t_is_within (E : Ex → Ev → Prop) : TDS :=
    (wSeq (wIfS (wNot (wT (wCall sp_is_integer E 1 [0] [] (wsCons (wVar 0) wsNil)))) (wRet (wC (.bl false))) wNext)
    (wRet (wAndV (wOrV (w2 dIsN (wBor 1) (wC .non)) (w2 dGe (wBor 0) (wBor 1))) (wOrV (w2 dIsN (wBor 2) (wC .non)) (w2 dLe (wBor 0) (wBor 2))))))
def bnd (l : D) : Prop := l = .non ∨ ∃ i, l = .int i
def lob (n : Int) : D → Bool
  | .int i => decide (i ≤ n)
  | _ => true
def hib (n : Int) : D → Bool
  | .int i => decide (n ≤ i)
  | _ => true
def wi (v l m : D) : Bool := match v with
  | .int n => lob n l && hib n m
  | _ => false
def sp_is_within : DSp := ⟨3, 0, fun ds Q _ => ∃ v l m, ds = [v, l, m] ∧ okv v = true ∧ bnd l ∧ bnd m ∧ Q (.bl (wi v l m))⟩
@[simp] theorem spc_is_within : sp_is_within.cost = 0 := rfl
/-! ### law -/
abbrev s_law : Stmt := top 9
abbrev N_law : List Str := ["_law_script", "_law_gauge_here", "_law_turn", "_law_number", "_law_value", "_law_low", "_law_high", "_law_least", "_law_most", "_law_due"]
theorem sc_law : FnScope N_law ["_law_script"] (defScope s_law) := ⟨rfl, rfl, rfl, by decide +kernel, rfl, by decide +kernel, by decide +kernel⟩
def t_law (E : Ex → Ev → Prop) : TDS :=
    (wSeq (wAsg 1 (wCall sp_qgauge E 1 [0] [] (wsCons (wVar 0) wsNil)))
    (wSeq (wFor (wRng1 (wsCons (wC (.int 5)) wsNil)) (gNm 2) (wSeq (wPar3 4 5 6 (wsCons (wCall sp_qodd E 1 [0] [] (wsCons (wVar 1) wsNil)) (wsCons (w2 dSub (wCall sp_qnotch E 2 [0, 1] [] (wsCons (wVar 1) (wsCons (wC (.int 12)) wsNil))) (wC (.int 6))) (wsCons (w2 dSub (wCall sp_qnotch E 2 [0, 1] [] (wsCons (wVar 1) (wsCons (wC (.int 12)) wsNil))) (wC (.int 6))) wsNil))))
      (wFor (wIt (wTup (wsCons (wVar 4) (wsCons (wVar 5) (wsCons (wVar 6) (wsCons (w2 dSub (wBor 5) (wC (.int 1))) (wsCons (w2 dAdd (wBor 6) (wC (.int 1))) wsNil))))))) (gNm 3) (wSeq (wFor (wIt (wTup (wsCons (wTup (wsCons (wVar 5) (wsCons (wVar 6) wsNil))) (wsCons (wTup (wsCons (wC .non) (wsCons (wVar 6) wsNil))) (wsCons (wTup (wsCons (wVar 5) (wsCons (wC .non) wsNil))) (wsCons (wTup (wsCons (wC .non) (wsCons (wC .non) wsNil))) wsNil)))))) (gTp 2 (gsCons (gNm 7) (gsCons (gNm 8) gsNil))) (wSeq (wAsg 9 (wAndV (wCall sp_qis_number E 1 [0] [] (wsCons (wVar 3) wsNil)) (wAndV (wOrV (w2 dIsN (wBor 7) (wC .non)) (w2 dGe (wBor 3) (wBor 7))) (wOrV (w2 dIsN (wBor 8) (wC .non)) (w2 dLe (wBor 3) (wBor 8))))))
          (wIfS (wOr (wB (w2 dNe (wN (d1 dRepr) (wsCons (wCall sp_is_within E 3 [0, 1, 2] [] (wsCons (wVar 3) (wsCons (wVar 7) (wsCons (wVar 8) wsNil)))) wsNil)) (wN (d1 dRepr) (wsCons (wBor 9) wsNil)))) (wB (w2 dNe (wN (d1 dRepr) (wsCons (wCall sp_is_within E 3 [2, 1, 0] [] (wsCons (wVar 8) (wsCons (wVar 7) (wsCons (wVar 3) wsNil)))) wsNil)) (wN (d1 dRepr) (wsCons (wBor 9) wsNil))))) (wRet (wC (.bl false))) wNext)))
        (wIfS (wB (w2 dNe (wN (d1 dRepr) (wsCons (wLst (wsCons (wCall sp_is_integer E 1 [0] [] (wsCons (wVar 3) wsNil)) (wsCons (wCall sp_is_integer E 1 [0] [] (wsCons (wVar 3) wsNil)) wsNil))) wsNil)) (wN (d1 dRepr) (wsCons (w2 dMul (wLst (wsCons (wCall sp_qis_number E 1 [0] [] (wsCons (wVar 3) wsNil)) wsNil)) (wC (.int 2))) wsNil)))) (wRet (wC (.bl false))) wNext)))))
    (wRet (wC (.bl true)))))
def sp_law : DSp := ⟨1, 25, fun ds Q _ => ∃ ns, ds = [.scr ns] ∧ ns.length ≤ 63 ∧ Q (.bl true)⟩
@[simp] theorem spc_law : sp_law.cost = 25 := rfl
end Lw
namespace Lw
open PySem PySem.Spec PyProof.Rows L2 DL
local macro_rules | `(tactic| walk_at "dl") => `(tactic| repeat' first
  | exact trivial
  | refine And.intro ?_ ?_
  | refine dAt_0 ?_
  | refine dAt_1 ?_
  | refine dAt_2 ?_
  | refine dPut_0 ?_
  | refine dPut_1 ?_
  | refine dPut_2 ?_
  | refine dIte_T rfl ?_
  | refine dIte_F rfl ?_
  | refine Exists.intro _ (And.intro (rfl : (_ : List D) = _) ?_)
  | exact wn_int
  | exact wn_bl
  | exact wn_non
  | exact wn_nil
  | exact wn_ints
  | refine wn_lst ?_
  | refine wn_tup ?_
  | exact wn_str (by decide +kernel)
  | refine wn_cons ?_ ?_
  | refine Exists.intro _ (And.intro (rfl : List.mapM D.key _ = some _) ?_)
  | exact List.pairwise_singleton _ _
  | exact (rfl : (_ : List D) = _)
  | exact rep_bl
  | exact wn_shb
  | exact RepOk.of (by decide +kernel)
  | exact (rfl : (_ : D) = _)
  | assumption
  | omega
  | ((show _ ≤ _); simp <;> omega)
  | exact (rfl : List.length _ = _)
  | exact Nat.le_of_ble_eq_true rfl
  | exact (by decide : Nat.log2 _ < 9000)
  | refine cmulT_l ⟨by omega, by omega⟩
  | refine cmulT_r ⟨by omega, by omega⟩
  | exact (rfl : noOwn _ _ = _))
theorem cutD60 (ns : List Int) : (DL.cutD ns none (some 60)).length ≤ ns.length := by
  unfold DL.cutD
  rw [List.length_take, List.length_drop]
  omega
theorem atI_ints {cs : List Int} {i : Int} (h : cs ≠ []) (hi : 0 ≤ i) : ∃ x : Int, atI (cs.map D.int) (i % ((cs.map D.int).length : Nat)) = some (.int x) := by
  have hl : 0 < cs.length := List.length_pos_iff.mpr h
  have hp : (0 : Int) < (cs.length : Int) := by omega
  have h0 := Int.emod_nonneg i (by omega : (cs.length : Int) ≠ 0)
  have h1 := Int.emod_lt_of_pos i hp
  obtain ⟨n, hn⟩ := Int.eq_ofNat_of_zero_le h0
  rw [List.length_map, hn]
  have hn2 : n < cs.length := by omega
  exact ⟨cs[n], DL.atI_nat (by simp [hn2])⟩
theorem p_qgauge : ∀ ds Q E, ds.length = sp_qgauge.np → sp_qgauge.run ds Q E → t_qgauge (fun x _ => E x) { nx := fun _ => Q .non, rt := fun d _ => Q d } ⟨sp_qgauge.cost, startD N_qgauge ds⟩ := by
  rintro ds Q E l ⟨ns, rfl, h, q⟩
  walk_at "dl"
  have hc := cutD60 ns
  have hz : SZ = 1000000 := rfl
  refine lcL_map id _ _ [] ?_ (fun x hx K L k => ?_) ?_
  · rw [List.length_map, List.length_nil]; omega
  · obtain ⟨n, _, rfl⟩ := List.mem_map.mp hx
    walk_at "dl"
    exact k _
  · rw [List.map_id, List.nil_append]
    exact ⟨_, rfl, by omega, q⟩
theorem p_qnotch : PDraw N_qnotch t_qnotch := by
  intro cs i r many hi hl hr hc hm hm2
  have fin : ∀ z : Int, 0 ≤ z % many ∧ z % many < many := fun z => ⟨Int.emod_nonneg _ (by omega), Int.emod_lt_of_pos _ hm⟩
  have qt : ∀ z : Int, 0 ≤ z → 0 ≤ z / many := fun z hz => Int.ediv_nonneg hz (by omega)
  walk_at "dl"
  refine dIte_i (fun h => ?_) (fun h => ?_)
  · exact ⟨0, rfl, Int.le_refl _, hm, i, r, rfl, hi, by omega, hr⟩
  have hne : cs ≠ [] := by simpa using h
  clear h
  walk_at "dl"
  refine dIte_i (fun h => ?_) (fun h => ?_)
  · walk_at "dl"
    exact ⟨_, rfl, (fin _).1, (fin _).2, _, _, rfl, hi, by omega, qt _ hr⟩
  walk_at "dl"
  have hl0 : 0 < ((cs.map D.int).length : Int) := by
    have := List.length_pos_iff.mpr hne
    rw [List.length_map]; omega
  walk_at "dl"
  obtain ⟨x, hx⟩ := atI_ints hne hi
  refine dAt_i hx ?_
  have hi2 : i ≤ 1048576 := hl
  have tail : ∀ m : Int, (m % 2147483629 * (2 * i + 5527) + 60923 * i * i + 71167).natAbs < 2 ^ 64 := fun m => by
    have h0 := Int.emod_nonneg m (by decide : (2147483629 : Int) ≠ 0)
    have h1 := Int.emod_lt_of_pos m (by decide : (0 : Int) < 2147483629)
    have h2 := mul_bd (A := 2147483629) (B := 2102679) h0 (by omega) (by omega : 0 ≤ 2 * i + 5527) (by omega)
    have h3 := mul_bd (A := 63882395648) (B := 1048576) (by omega : 0 ≤ 60923 * i) (by omega) hi hi2
    omega
  walk_at "dl"
  refine dIte_i (fun h2 => ?_) (fun h2 => ?_)
  · walk_at "dl"
    refine dIte_i (fun h3 => ?_) (fun h3 => ?_)
    · walk_at "dl"
      have h3 := of_decide_eq_true h3
      have e : (10 : Int) ^ Int.toNat 18 = 1000000000000000000 := by decide
      rw [e] at h3
      refine ⟨_, rfl, (fin _).1, (fin _).2, _, _, rfl, by omega, by omega, qt _ ?_⟩
      rw [e]
      split <;> omega
    · walk_at "dl"
      · exact tail _
      · exact ⟨_, rfl, (fin _).1, (fin _).2, _, _, rfl, by omega, by omega, hr⟩
  · walk_at "dl"
    · exact tail _
    · exact ⟨_, rfl, (fin _).1, (fin _).2, _, _, rfl, by omega, by omega, hr⟩
theorem p_qone : ∀ ds Q E, ds.length = sp_qone.np → sp_qone.run ds Q E → t_qone (fun x _ => E x) { nx := fun _ => Q .non, rt := fun d _ => Q d } ⟨sp_qone.cost, startD N_qone ds⟩ := by
  rintro ds Q E l ⟨xs, rfl, h0, h1, q⟩
  walk_at "dl"
  · exact log2_sz h1
  · intro i h2 h3
    exact dAt_all h2 h3 q
theorem p_qodd : ∀ ds Q E, ds.length = sp_qodd.np → sp_qodd.run ds Q E → t_qodd (fun x _ => E x) { nx := fun _ => Q .non, rt := fun d _ => Q d } ⟨sp_qodd.cost, startD N_qodd ds⟩ := by
  rintro ds Q E _ ⟨rfl, q⟩
  walk_at "dl"
  intro x h0 h1
  walk_at "dl"
  intro y hy
  have hn : ∃ n : Int, y = .int n ∧ n.natAbs.log2 < 1920 := by
    simp only [List.mem_cons, List.not_mem_nil, or_false] at hy
    have hx : x.natAbs.log2 < 1920 := by
      by_cases z : x.natAbs = 0
      · rw [z]; decide
      · rw [Nat.log2_lt z]
        exact Nat.lt_of_lt_of_le (by omega : x.natAbs < 2 ^ 14) (Nat.pow_le_pow_right (by decide) (by decide))
    rcases hy with rfl | rfl | rfl | rfl | rfl | rfl | rfl | rfl | rfl
    · exact ⟨_, rfl, by decide⟩
    · exact ⟨_, rfl, by decide⟩
    · exact ⟨_, rfl, by decide⟩
    · exact ⟨_, rfl, by decide⟩
    · exact ⟨_, rfl, by decide⟩
    · exact ⟨_, rfl, by decide⟩
    · exact ⟨_, rfl, by decide⟩
    · exact ⟨_, rfl, by decide⟩
    · exact ⟨_, rfl, hx⟩
  obtain ⟨n, rfl, hn⟩ := hn
  walk_at "dl"
  intro z hz
  refine q z ?_
  simp only [List.mem_cons, List.not_mem_nil, or_false] at hz
  rcases hz with rfl | rfl | rfl | rfl | rfl | rfl | rfl | rfl | rfl | rfl | rfl | rfl | rfl | rfl <;> rfl
theorem p_qis_number : ∀ ds Q E, ds.length = sp_qis_number.np → sp_qis_number.run ds Q E → t_qis_number (fun x _ => E x) { nx := fun _ => Q .non, rt := fun d _ => Q d } ⟨sp_qis_number.cost, startD N_qis_number ds⟩ := by
  rintro ds Q E l ⟨v, rfl, ok, q⟩
  cases v <;> first | exact nomatch (show false = true from ok) | (walk_at "dl")
  all_goals exact q
theorem p_is_integer : ∀ ds Q E, ds.length = sp_is_integer.np → sp_is_integer.run ds Q E → t_is_integer (fun x _ => E x) { nx := fun _ => Q .non, rt := fun d _ => Q d } ⟨sp_is_integer.cost, startD N_is_integer ds⟩ := by
  rintro ds Q E l ⟨v, rfl, ok, q⟩
  cases v <;> first | exact nomatch (show false = true from ok) | (walk_at "dl")
  all_goals exact q
theorem p_is_within : ∀ ds Q E, ds.length = sp_is_within.np → sp_is_within.run ds Q E → t_is_within (fun x _ => E x) { nx := fun _ => Q .non, rt := fun d _ => Q d } ⟨sp_is_within.cost, startD N_is_within ds⟩ := by
  rintro ds Q E _ ⟨v, l, m, rfl, ok, hl, hm, q⟩
  have en : ∀ n : Int, v = .int n → Q (.bl (lob n l && hib n m)) := fun n e => by subst e; exact q
  walk_at "dl"
  cases v <;> first | exact nomatch (show false = true from ok) | (walk_at "dl")
  all_goals first | exact q | skip
  rename_i n _
  have q := en n rfl
  rcases hl with rfl | ⟨i, rfl⟩ <;> rcases hm with rfl | ⟨j, rfl⟩ <;> walk_at "dl"
  all_goals try exact q
  all_goals refine dIte_i (fun h => ?_) (fun h => ?_)
  all_goals walk_at "dl"
  all_goals first | exact q | (simp only [lob, hib, h, Bool.true_and, Bool.false_and, Bool.and_true] at q; first | exact q | (show Q _; simp only [h]; exact q))
/-- a pair of bounds -/
def bnd2 (x : D) : Prop := ∃ l m, x = .tup [l, m] ∧ bnd l ∧ bnd m
theorem due_i {E : Ex → Ev → Prop} {z : Nat} {s0 s1 s2 s4 s5 s6 s9 : Slot} {w l m : D} {Q : D → Ev → Prop} (ow : okv w = true) (hl : bnd l) (hm : bnd m) (q : Q (.bl (wi w l m)) ⟨z, [s0, s1, s2, .sh w, s4, s5, s6, .sh l, .sh m, s9]⟩) :
    wAndV (wCall sp_qis_number E 1 [0] [] (wsCons (wVar 3) wsNil)) (wAndV (wOrV (w2 dIsN (wBor 7) (wC .non)) (w2 dGe (wBor 3) (wBor 7))) (wOrV (w2 dIsN (wBor 8) (wC .non)) (w2 dLe (wBor 3) (wBor 8)))) ⟨z, [s0, s1, s2, .sh w, s4, s5, s6, .sh l, .sh m, s9]⟩ Q := by
  have en : ∀ n : Int, w = .int n → Q (.bl (lob n l && hib n m)) ⟨z, [s0, s1, s2, .sh w, s4, s5, s6, .sh l, .sh m, s9]⟩ := fun n e => by subst e; exact q
  walk_at "dl"
  cases w <;> first | exact nomatch (show false = true from ow) | (walk_at "dl")
  all_goals try exact q
  rename_i n
  have q := en n rfl
  rcases hl with rfl | ⟨i, rfl⟩ <;> rcases hm with rfl | ⟨j, rfl⟩ <;> walk_at "dl"
  all_goals try exact q
  all_goals refine dIte_i (fun h => ?_) (fun h => ?_)
  all_goals walk_at "dl"
  all_goals first | exact q | (simp only [lob, hib, h, Bool.true_and, Bool.false_and, Bool.and_true] at q; first | exact q | (show Q _ _; simp only [h]; exact q))
theorem p_law : ∀ ds Q E, ds.length = sp_law.np → sp_law.run ds Q E → t_law (fun x _ => E x) { nx := fun _ => Q .non, rt := fun d _ => Q d } ⟨sp_law.cost, startD N_law ds⟩ := by
  rintro ds Q E _ ⟨ns, rfl, hl, q⟩
  walk_at "dl"
  refine forL_rem (fun n ρ => ∃ z a b c d e f g h, 5 * n ≤ z ∧ ρ = ⟨z, [.sh (.scr ns), .sh .pen, a, b, c, d, e, f, g, h]⟩) _ _ ⟨_, _, _, _, _, _, _, _, _, Nat.le_refl _, rfl⟩ ?_ ?_
  · rintro ρ ⟨z, a, b, c, d, e, f, g, h, _, rfl⟩
    exact q
  rintro x hx n K R B ρ hK hR hB ⟨z, a, b, c, d, e, f, g, h, hz, rfl⟩ _
  walk_at "dl"
  intro v hv
  walk_at "dl"
  intro y1 hy1 _
  walk_at "dl"
  intro y2 hy2 _
  walk_at "dl"
  refine forL_rem (fun _ ρ => ∃ z' b f g h, 5 * n ≤ z' ∧ ρ = ⟨z', [.sh (.scr ns), .sh .pen, .sh x, b, .sh v, .sh (.int (y1 - 6)), .sh (.int (y2 - 6)), f, g, h]⟩) _ _ ⟨_, _, _, _, _, ?_, rfl⟩ ?_ ?_
  · simp <;> omega
  · rintro ρ ⟨z', b, f, g, h, hz', rfl⟩
    exact hK _ ⟨_, _, _, _, _, _, _, _, _, hz', rfl⟩
  rintro w hw _ K2 R2 B2 ρ hK2 hR2 hB2 ⟨z2, b, f, g, h, hz2, rfl⟩ _
  have ow : okv w = true := by
    simp only [List.mem_cons, List.not_mem_nil, or_false] at hw
    rcases hw with rfl | rfl | rfl | rfl | rfl
    · exact hv
    all_goals rfl
  clear hw
  walk_at "dl"
  refine forL_rem (fun _ ρ => ∃ z' f g h, 5 * n ≤ z' ∧ ρ = ⟨z', [.sh (.scr ns), .sh .pen, .sh x, .sh w, .sh v, .sh (.int (y1 - 6)), .sh (.int (y2 - 6)), f, g, h]⟩) _ _ ⟨_, _, _, _, hz2, rfl⟩ ?_ ?_
  · rintro ρ ⟨z', f, g, h, hz', rfl⟩
    walk_at "dl"
    all_goals (generalize isNum w = nb; cases nb <;> walk_at "dl" <;> exact hK2 _ ⟨_, _, _, _, _, hz', rfl⟩)
  rintro u hu _ K3 R3 B3 ρ hK3 hR3 hB3 ⟨z3, f, g, h, hz3, rfl⟩ _
  have bu : bnd2 u := by
    simp only [List.mem_cons, List.not_mem_nil, or_false] at hu
    rcases hu with rfl | rfl | rfl | rfl
    · exact ⟨_, _, rfl, .inr ⟨_, rfl⟩, .inr ⟨_, rfl⟩⟩
    · exact ⟨_, _, rfl, .inl rfl, .inr ⟨_, rfl⟩⟩
    · exact ⟨_, _, rfl, .inr ⟨_, rfl⟩, .inl rfl⟩
    · exact ⟨_, _, rfl, .inl rfl, .inl rfl⟩
  clear hu
  obtain ⟨l, m, rfl, bl, bm⟩ := bu
  refine And.intro rfl ?_
  dsimp only [gsCons, gNm, gsNil]
  refine And.intro rfl ?_
  refine seq_asg (due_i ow bl bm ?_)
  walk_at "dl"
  refine Exists.intro w (Exists.intro l (Exists.intro m ?_))
  walk_at "dl"
  refine dIte_F (by simp) ?_
  walk_at "dl"
  refine Exists.intro w (Exists.intro l (Exists.intro m ?_))
  walk_at "dl"
  refine dIte_F (by simp) ?_
  walk_at "dl"
  exact hK3 _ ⟨_, _, _, _, by simpa using hz3, rfl⟩
theorem law_true : ∀ ns : List Int, ns.length ≤ 63 → sp_law.run [.scr ns] (fun d => d = .bl true) fun _ => False := fun ns h => ⟨ns, rfl, h, rfl⟩
end Lw
namespace Lw
open PySem PySem.Spec PyProof.Rows L2 DL
theorem C_qgauge {P : Program} {w : World} {S : Sg} {mg : Str → Option Value} {base : Heap} (B : BN mg) (F : ∃ f fd, mg "_law_gauge" = some (.ref f) ∧ Fun S.K "_law_gauge" "_law_gauge" s_qgauge f fd) : Cal P w S mg base 1 "_law_gauge" "_law_gauge" "_law_gauge" s_qgauge ["_law_script"] sp_qgauge := by
  obtain ⟨f, fd, hm, F⟩ := F
  refine ⟨f, fd, hm, F, fnd_of (t := t_qgauge) F sc_qgauge rfl (fun cv A outer s H E Fr' E' hS c => by subst hS; exact
    (dss_one (ds_ret (de_pen (da_cons ((df_lc (own := [("_law_cell", 1)]) c.calm c.nd (di_any c.hK (de_slice c.hK (dvb 0) do_none (do_some de_int))) (blkOk_by (by kernel_rfl)) (by decide) (fun s1 H1 C1 cl1 fp1 B1 => (dg_name 1 (c.blk s1 H1 _ _ fp1 B1).nd)) (fun s1 H1 C1 cl1 fp1 B1 => dts_nil) (fun s1 H1 C1 cl1 fp1 B1 => (f_int (c.blk s1 H1 _ _ fp1 B1) B (dvb 1))))).s (da_cons de_int (da_cons de_int da_nil))))))) p_qgauge⟩
theorem C_qnotch {P : Program} {w : World} {S : Sg} {mg : Str → Option Value} {base : Heap} (B : BN mg) (F : ∃ f fd, mg "_law_notch" = some (.ref f) ∧ Fun S.K "_law_notch" "_law_notch" s_qnotch f fd) : Cal P w S mg base 1 "_law_notch" "_law_notch" "_law_notch" s_qnotch ["_law_gauge_here", "_law_many"] sp_qnotch := by
  obtain ⟨f, fd, hm, F⟩ := F
  refine ⟨f, fd, hm, F, fnd_draw (t := t_qnotch) F sc_qnotch rfl (fun cv A outer s H E Fr' E' hS c => by subst hS; exact
    (dss_cons (ds_if (c_eq c ((de_ix c.hK (dvb 0) (de_int).b)).b ((df_lst da_nil)).s.b) (dss_one (ds_ret de_int)) dss_nil)
    (dss_cons (ds_if (c_gt c ((de_ix c.hK (dvb 0) (de_int).b)).b (de_int).b) (dss_cons (ds_set 5 c.nd (f_int c B ((de_ix c.hK (dvb 0) (de_int).b)).b))
      (dss_cons (ds_setix 0 (b_fdiv c (dvb 5) (dvb 1)) de_int)
      (dss_one (ds_ret (b_mod c ((f_int c B (dvb 5))).b (dvb 1)))))) dss_nil)
    (dss_cons (ds_set 2 c.nd (de_ix c.hK (dvb 0) (de_int).b))
    (dss_cons (ds_setix 0 (b_add c (dvb 2) (de_int).b) de_int)
    (dss_cons (ds_set 3 c.nd (de_ix c.hK ((de_ix c.hK (dvb 0) (de_int).b)).b ((b_mod c ((f_int c B (dvb 2))).b ((f_len c B ((de_ix c.hK (dvb 0) (de_int).b)).b)).b)).b))
    (dss_cons (ds_if (dt_w (dw_and (c_lt c (dvb 2) ((f_len c B ((de_ix c.hK (dvb 0) (de_int).b)).b)).b) (dw_and1 (c_ge c ((f_abs c B (dvb 3))).b ((b_pow c (de_int).b (de_int).b)).b)))) (dss_cons (ds_set 5 c.nd (b_add c ((b_mul c (de_int).b ((b_sub c ((f_abs c B (dvb 3))).b ((b_pow c (de_int).b (de_int).b)).b)).b)).b ((f_int c B ((v_lt c (dvb 3) (de_int).b)).b)).b))
      (dss_cons (ds_setix 0 (b_fdiv c ((f_int c B (dvb 5))).b (dvb 1)) de_int)
      (dss_one (ds_ret (b_mod c ((f_int c B (dvb 5))).b (dvb 1)))))) dss_nil)
    (dss_cons (ds_set 4 c.nd (b_mod c ((f_int c B ((b_pow c ((b_add c ((b_add c ((b_mod c ((f_int c B (dvb 3))).b (de_int).b)).b ((b_mul c (de_int).b (dvb 2))).b)).b (de_int).b)).b (de_int).b)).b)).b (de_int).b))
    (dss_cons (ds_set 4 c.nd (b_mod c ((f_int c B ((b_pow c ((b_add c ((b_add c ((b_mul c (dvb 4) ((b_add c ((b_mul c (de_int).b (dvb 2))).b (de_int).b)).b)).b ((b_mul c ((b_mul c (de_int).b (dvb 2))).b (dvb 2))).b)).b (de_int).b)).b (de_int).b)).b)).b (de_int).b))
    (dss_one (ds_ret (b_mod c ((f_int c B ((b_fdiv c (dvb 4) (de_int).b)).b)).b (dvb 1))))))))))))) p_qnotch⟩
theorem C_qone {P : Program} {w : World} {S : Sg} {mg : Str → Option Value} {base : Heap} (B : BN mg) (C_qnotch : Cal P w S mg base 1 "_law_notch" "_law_notch" "_law_notch" s_qnotch ["_law_gauge_here", "_law_many"] sp_qnotch) (F : ∃ f fd, mg "_law_one" = some (.ref f) ∧ Fun S.K "_law_one" "_law_one" s_qone f fd) : Cal P w S mg base 2 "_law_one" "_law_one" "_law_one" s_qone ["_law_gauge_here", "_law_some"] sp_qone := by
  obtain ⟨f, fd, hm, F⟩ := F
  refine ⟨f, fd, hm, F, fnd_of (t := t_qone) F sc_qone rfl (fun cv A outer s H E Fr' E' hS c => by subst hS; exact
    (dss_one (ds_ret (de_ix c.hK (dvb 1) ((de_C c C_qnotch (by decide) (fun _ _ _ _ _ _ us ws hu hw => match us, hu, ws, hw with | [_, _], _, [], _ => rfl) (da_cons (dv 0) (da_cons (f_len c B (dvb 1)) da_nil)))).b)))) p_qone⟩
theorem C_qodd {P : Program} {w : World} {S : Sg} {mg : Str → Option Value} {base : Heap} (B : BN mg) (C_qone : Cal P w S mg base 2 "_law_one" "_law_one" "_law_one" s_qone ["_law_gauge_here", "_law_some"] sp_qone) (C_qnotch : Cal P w S mg base 1 "_law_notch" "_law_notch" "_law_notch" s_qnotch ["_law_gauge_here", "_law_many"] sp_qnotch) (F : ∃ f fd, mg "_law_odd" = some (.ref f) ∧ Fun S.K "_law_odd" "_law_odd" s_qodd f fd) : Cal P w S mg base 3 "_law_odd" "_law_odd" "_law_odd" s_qodd ["_law_gauge_here"] sp_qodd := by
  obtain ⟨f, fd, hm, F⟩ := F
  refine ⟨f, fd, hm, F, fnd_of (t := t_qodd) F sc_qodd rfl (fun cv A outer s H E Fr' E' hS c => by subst hS; exact
    (dss_cons (ds_set 1 c.nd (de_C c C_qone (by decide) (fun _ _ _ _ _ _ us ws hu hw => match us, hu, ws, hw with | [_, _], _, [], _ => rfl) (da_cons (dv 0) (da_cons ((df_lst (da_cons de_int (da_cons de_int (da_cons de_int (da_cons de_int (da_cons de_int (da_cons (u_neg (de_int).b) (da_cons (b_pow c (de_int).b (de_int).b) (da_cons (u_neg ((b_pow c (de_int).b (de_int).b)).b) (da_cons (de_C c C_qnotch (by decide) (fun _ _ _ _ _ _ us ws hu hw => match us, hu, ws, hw with | [_, _], _, [], _ => rfl) (da_cons (dv 0) (da_cons de_int da_nil))) da_nil))))))))))).s da_nil))))
    (dss_one (ds_ret (de_C c C_qone (by decide) (fun _ _ _ _ _ _ us ws hu hw => match us, hu, ws, hw with | [_, _], _, [], _ => rfl) (da_cons (dv 0) (da_cons ((df_lst (da_cons (dv 1) (da_cons (dv 1) (da_cons de_non (da_cons de_bl (da_cons de_bl (da_cons (f_str c B (dvb 1)) (da_cons ((df_lst (da_cons (dv 1) da_nil))).s (da_cons (de_tup (da_cons (dv 1) da_nil)) (da_cons de_dic0 (da_cons (de_dic fun B1 => (dp_cons (dv 1) de_int dp_nil)) (da_cons de_str (da_cons de_str (da_cons ((df_lst da_nil)).s (da_cons (de_tup da_nil) da_nil)))))))))))))))).s da_nil))))))) p_qodd⟩
theorem C_qis_number {P : Program} {w : World} {S : Sg} {mg : Str → Option Value} {base : Heap} (B : BN mg) (F : ∃ f fd, mg "_law_is_number" = some (.ref f) ∧ Fun S.K "_law_is_number" "_law_is_number" s_qis_number f fd) : Cal P w S mg base 1 "_law_is_number" "_law_is_number" "_law_is_number" s_qis_number ["_law_value"] sp_qis_number := by
  obtain ⟨f, fd, hm, F⟩ := F
  refine ⟨f, fd, hm, F, fnd_of (t := t_qis_number) F sc_qis_number rfl (fun cv A outer s H E Fr' E' hS c => by subst hS; exact
    (dss_one (ds_ret (de_and c.hK (de_isi c.hK .int (dvb 0) B.isinstance B.int) (de_one (de_not c.hK ((de_isi c.hK .bl (dvb 0) B.isinstance B.bool)).b)))))) p_qis_number⟩
theorem C_is_integer {P : Program} {w : World} {S : Sg} {mg : Str → Option Value} {base : Heap} (B : BN mg) (F : ∃ f fd, mg "is_integer" = some (.ref f) ∧ Fun S.K "is_integer" "is_integer" s_is_integer f fd) : Cal P w S mg base 1 "is_integer" "is_integer" "is_integer" s_is_integer ["value"] sp_is_integer := by
  obtain ⟨f, fd, hm, F⟩ := F
  refine ⟨f, fd, hm, F, fnd_of (t := t_is_integer) F sc_is_integer rfl (fun cv A outer s H E Fr' E' hS c => by subst hS; exact
    (dss_one (ds_ret (de_and c.hK (de_isi c.hK .int (dvb 0) B.isinstance B.int) (de_one (de_not c.hK ((de_isi c.hK .bl (dvb 0) B.isinstance B.bool)).b)))))) p_is_integer⟩
theorem C_is_within {P : Program} {w : World} {S : Sg} {mg : Str → Option Value} {base : Heap} (C_is_integer : Cal P w S mg base 1 "is_integer" "is_integer" "is_integer" s_is_integer ["value"] sp_is_integer) (F : ∃ f fd, mg "is_within" = some (.ref f) ∧ Fun S.K "is_within" "is_within" s_is_within f fd) : Cal P w S mg base 2 "is_within" "is_within" "is_within" s_is_within ["value", "least", "most"] sp_is_within := by
  obtain ⟨f, fd, hm, F⟩ := F
  refine ⟨f, fd, hm, F, fnd_of (t := t_is_within) F sc_is_within rfl (fun cv A outer s H E Fr' E' hS c => by subst hS; exact
    (dss_cons (ds_if (dt_not (dt_tru c.hK ((de_C c C_is_integer (by decide) (fun _ _ _ _ _ _ us ws hu hw => match us, hu, ws, hw with | [_], _, [], _ => rfl) (da_cons (dv 0) da_nil))).b)) (dss_one (ds_ret de_bl)) dss_nil)
    (dss_one (ds_ret (de_and c.hK (de_or c.hK (v_is c (dvb 1) (de_non).b) (de_one (v_ge c (dvb 0) (dvb 1)))) (de_one (de_or c.hK (v_is c (dvb 2) (de_non).b) (de_one (v_le c (dvb 0) (dvb 2)))))))))) p_is_within⟩
theorem C_law {P : Program} {w : World} {S : Sg} {mg : Str → Option Value} {base : Heap} (B : BN mg) (C_qgauge : Cal P w S mg base 1 "_law_gauge" "_law_gauge" "_law_gauge" s_qgauge ["_law_script"] sp_qgauge) (C_qnotch : Cal P w S mg base 1 "_law_notch" "_law_notch" "_law_notch" s_qnotch ["_law_gauge_here", "_law_many"] sp_qnotch) (C_qodd : Cal P w S mg base 3 "_law_odd" "_law_odd" "_law_odd" s_qodd ["_law_gauge_here"] sp_qodd) (C_qis_number : Cal P w S mg base 1 "_law_is_number" "_law_is_number" "_law_is_number" s_qis_number ["_law_value"] sp_qis_number) (C_is_within : Cal P w S mg base 2 "is_within" "is_within" "is_within" s_is_within ["value", "least", "most"] sp_is_within) (C_is_integer : Cal P w S mg base 1 "is_integer" "is_integer" "is_integer" s_is_integer ["value"] sp_is_integer) (F : ∃ f fd, mg "law" = some (.ref f) ∧ Fun S.K "law" "law" s_law f fd) : Cal P w S mg base 4 "law" "law" "law" s_law ["_law_script"] sp_law := by
  obtain ⟨f, fd, hm, F⟩ := F
  refine ⟨f, fd, hm, F, fnd_of (t := t_law) F sc_law rfl (fun cv A outer s H E Fr' E' hS c => by subst hS; exact
    (dss_cons (ds_set 1 c.nd (de_C c C_qgauge (by decide) (fun _ _ _ _ _ _ us ws hu hw => match us, hu, ws, hw with | [_], _, [], _ => rfl) (da_cons (dv 0) da_nil)))
    (dss_cons (ds_for c.po c.calm (di_rng1 B.range de_int) (dg_name 2 c.nd) (dss_cons (ds_par3 4 5 6 c.calm c.nd (da_cons (de_C c C_qodd (by decide) (fun _ _ _ _ _ _ us ws hu hw => match us, hu, ws, hw with | [_], _, [], _ => rfl) (da_cons (dv 1) da_nil)) (da_cons (b_sub c ((de_C c C_qnotch (by decide) (fun _ _ _ _ _ _ us ws hu hw => match us, hu, ws, hw with | [_, _], _, [], _ => rfl) (da_cons (dv 1) (da_cons de_int da_nil)))).b (de_int).b) (da_cons (b_sub c ((de_C c C_qnotch (by decide) (fun _ _ _ _ _ _ us ws hu hw => match us, hu, ws, hw with | [_, _], _, [], _ => rfl) (da_cons (dv 1) (da_cons de_int da_nil)))).b (de_int).b) da_nil))))
      (dss_one (ds_for c.po c.calm (di_any c.hK (de_tup (da_cons (dv 4) (da_cons (dv 5) (da_cons (dv 6) (da_cons (b_sub c (dvb 5) (de_int).b) (da_cons (b_add c (dvb 6) (de_int).b) da_nil))))))) (dg_name 3 c.nd) (dss_cons (ds_for c.po c.calm (di_any c.hK (de_tup (da_cons (de_tup (da_cons (dv 5) (da_cons (dv 6) da_nil))) (da_cons (de_tup (da_cons de_non (da_cons (dv 6) da_nil))) (da_cons (de_tup (da_cons (dv 5) (da_cons de_non da_nil))) (da_cons (de_tup (da_cons de_non (da_cons de_non da_nil))) da_nil)))))) (dg_tup c.hK c.calm (dgs_cons (dg_name 7 c.nd) (dgs_cons (dg_name 8 c.nd) dgs_nil))) (dss_cons (ds_set 9 c.nd (de_and c.hK (de_C c C_qis_number (by decide) (fun _ _ _ _ _ _ us ws hu hw => match us, hu, ws, hw with | [_], _, [], _ => rfl) (da_cons (dv 3) da_nil)) (de_and c.hK (de_or c.hK (v_is c (dvb 7) (de_non).b) (de_one (v_ge c (dvb 3) (dvb 7)))) (de_one (de_or c.hK (v_is c (dvb 8) (de_non).b) (de_one (v_le c (dvb 3) (dvb 8))))))))
          (dss_one (ds_if (dt_w (dw_or (c_ne c ((f_repr c B ((de_C c C_is_within (by decide) (fun _ _ _ _ _ _ us ws hu hw => match us, hu, ws, hw with | [_, _, _], _, [], _ => rfl) (da_cons (dv 3) (da_cons (dv 7) (da_cons (dv 8) da_nil))))).b)).b ((f_repr c B (dvb 9))).b) (dw_or1 (c_ne c ((f_repr c B ((de_C0 (ks := ["most", "least", "value"]) c C_is_within (by decide) (fun _ _ _ _ _ _ us ws hu hw => match us, hu, ws, hw with | [], _, [_, _, _], _ => rfl) (dk_cons (dv 8) (dk_cons (dv 7) (dk_cons (dv 3) dk_nil))))).b)).b ((f_repr c B (dvb 9))).b)))) (dss_one (ds_ret de_bl)) dss_nil))))
        (dss_one (ds_if (c_ne c ((f_repr c B ((df_lst (da_cons (de_C c C_is_integer (by decide) (fun _ _ _ _ _ _ us ws hu hw => match us, hu, ws, hw with | [_], _, [], _ => rfl) (da_cons (dv 3) da_nil)) (da_cons (de_C0 (ks := ["value"]) c C_is_integer (by decide) (fun _ _ _ _ _ _ us ws hu hw => match us, hu, ws, hw with | [], _, [_], _ => rfl) (dk_cons (dv 3) dk_nil)) da_nil)))).s.b)).b ((f_repr c B ((b_mul c ((df_lst (da_cons (de_C c C_qis_number (by decide) (fun _ _ _ _ _ _ us ws hu hw => match us, hu, ws, hw with | [_], _, [], _ => rfl) (da_cons (dv 3) da_nil)) da_nil))).s.b (de_int).b)).b)).b) (dss_one (ds_ret de_bl)) dss_nil)))))))
    (dss_one (ds_ret de_bl))))) p_law⟩
theorem all_mk {l : PySem.W.OpenLaw} {w : World} {K : PySem.W.Frag} {h : Heap} {mg : Str → Option Value} {fa f0 f1 f2 f3 f4 f5 f6 f7 : Addr} (X : K.In h) (G : h.Ns mainGlobals mg) (hfa : mg "law" = some (.ref fa))
    {od0 an0 od1 an1 od2 an2 od3 an3 od4 an4 od5 an5 od6 an6 od7 an7 : Option Addr} {sl0 sl1 sl2 sl3 sl4 sl5 sl6 sl7 : Array (Option Value)} {oc0 kV0 dc0 pm0 cd0 ct0 oc1 kV1 dc1 pm1 cd1 ct1 oc2 kV2 dc2 pm2 cd2 ct2 oc3 kV3 dc3 pm3 cd3 ct3 oc4 kV4 dc4 pm4 cd4 ct4 oc5 kV5 dc5 pm5 cd5 ct5 oc6 kV6 dc6 pm6 cd6 ct6 oc7 kV7 dc7 pm7 cd7 ct7 : Value}
    (a0 : PySem.W.nsIn K mainGlobals "_law_gauge" = some (some (.ref f0))) (l0 : K.lookup f0 = some ⟨oc0, od0, .func (PySem.W.fnOf "_law_gauge" "_law_gauge" (defArgs s_qgauge) (defBody s_qgauge) (defScope s_qgauge) .none kV0 dc0 pm0 an0 cd0 ct0), sl0⟩) (c0 : PySem.W.codeIn K cd0 "_law_gauge" = true) (k0 : PySem.W.keepIn K (.ref f0) = true)
    (a1 : PySem.W.nsIn K mainGlobals "_law_notch" = some (some (.ref f1))) (l1 : K.lookup f1 = some ⟨oc1, od1, .func (PySem.W.fnOf "_law_notch" "_law_notch" (defArgs s_qnotch) (defBody s_qnotch) (defScope s_qnotch) .none kV1 dc1 pm1 an1 cd1 ct1), sl1⟩) (c1 : PySem.W.codeIn K cd1 "_law_notch" = true) (k1 : PySem.W.keepIn K (.ref f1) = true)
    (a2 : PySem.W.nsIn K mainGlobals "_law_one" = some (some (.ref f2))) (l2 : K.lookup f2 = some ⟨oc2, od2, .func (PySem.W.fnOf "_law_one" "_law_one" (defArgs s_qone) (defBody s_qone) (defScope s_qone) .none kV2 dc2 pm2 an2 cd2 ct2), sl2⟩) (c2 : PySem.W.codeIn K cd2 "_law_one" = true) (k2 : PySem.W.keepIn K (.ref f2) = true)
    (a3 : PySem.W.nsIn K mainGlobals "_law_odd" = some (some (.ref f3))) (l3 : K.lookup f3 = some ⟨oc3, od3, .func (PySem.W.fnOf "_law_odd" "_law_odd" (defArgs s_qodd) (defBody s_qodd) (defScope s_qodd) .none kV3 dc3 pm3 an3 cd3 ct3), sl3⟩) (c3 : PySem.W.codeIn K cd3 "_law_odd" = true) (k3 : PySem.W.keepIn K (.ref f3) = true)
    (a4 : PySem.W.nsIn K mainGlobals "_law_is_number" = some (some (.ref f4))) (l4 : K.lookup f4 = some ⟨oc4, od4, .func (PySem.W.fnOf "_law_is_number" "_law_is_number" (defArgs s_qis_number) (defBody s_qis_number) (defScope s_qis_number) .none kV4 dc4 pm4 an4 cd4 ct4), sl4⟩) (c4 : PySem.W.codeIn K cd4 "_law_is_number" = true) (k4 : PySem.W.keepIn K (.ref f4) = true)
    (a5 : PySem.W.nsIn K mainGlobals "is_integer" = some (some (.ref f5))) (l5 : K.lookup f5 = some ⟨oc5, od5, .func (PySem.W.fnOf "is_integer" "is_integer" (defArgs s_is_integer) (defBody s_is_integer) (defScope s_is_integer) .none kV5 dc5 pm5 an5 cd5 ct5), sl5⟩) (c5 : PySem.W.codeIn K cd5 "is_integer" = true) (k5 : PySem.W.keepIn K (.ref f5) = true)
    (a6 : PySem.W.nsIn K mainGlobals "is_within" = some (some (.ref f6))) (l6 : K.lookup f6 = some ⟨oc6, od6, .func (PySem.W.fnOf "is_within" "is_within" (defArgs s_is_within) (defBody s_is_within) (defScope s_is_within) .none kV6 dc6 pm6 an6 cd6 ct6), sl6⟩) (c6 : PySem.W.codeIn K cd6 "is_within" = true) (k6 : PySem.W.keepIn K (.ref f6) = true)
    (a7 : PySem.W.nsIn K mainGlobals "law" = some (some (.ref f7))) (l7 : K.lookup f7 = some ⟨oc7, od7, .func (PySem.W.fnOf "law" "law" (defArgs s_law) (defBody s_law) (defScope s_law) .none kV7 dc7 pm7 an7 cd7 ct7), sl7⟩) (c7 : PySem.W.codeIn K cd7 "law" = true) (k7 : PySem.W.keepIn K (.ref f7) = true)
    (z_len : PySem.W.nsIn K mainGlobals "len" = some none)
    (z_range : PySem.W.nsIn K mainGlobals "range" = some none)
    (z_int : PySem.W.nsIn K mainGlobals "int" = some none)
    (z_str : PySem.W.nsIn K mainGlobals "str" = some none)
    (z_abs : PySem.W.nsIn K mainGlobals "abs" = some none)
    (z_list : PySem.W.nsIn K mainGlobals "list" = some none)
    (z_tuple : PySem.W.nsIn K mainGlobals "tuple" = some none)
    (z_any : PySem.W.nsIn K mainGlobals "any" = some none)
    (z_all : PySem.W.nsIn K mainGlobals "all" = some none)
    (z_repr : PySem.W.nsIn K mainGlobals "repr" = some none)
    (z_isinstance : PySem.W.nsIn K mainGlobals "isinstance" = some none)
    (z_bool : PySem.W.nsIn K mainGlobals "bool" = some none)
    (z_dict : PySem.W.nsIn K mainGlobals "dict" = some none)
    (z_set : PySem.W.nsIn K mainGlobals "set" = some none)
    (z_sorted : PySem.W.nsIn K mainGlobals "sorted" = some none)
    (z_zip : PySem.W.nsIn K mainGlobals "zip" = some none)
    (z_enumerate : PySem.W.nsIn K mainGlobals "enumerate" = some none)
    (z_max : PySem.W.nsIn K mainGlobals "max" = some none)
    (z_min : PySem.W.nsIn K mainGlobals "min" = some none)
    (z_sum : PySem.W.nsIn K mainGlobals "sum" = some none)
    (z_type : PySem.W.nsIn K mainGlobals "type" = some none)
    (z_super : PySem.W.nsIn K mainGlobals "super" = some none)
    (z_reversed : PySem.W.nsIn K mainGlobals "reversed" = some none)
    : ∃ fd : FuncData, (∀ (s : Shared) (v : Value), BindsTo s fd ⟨[v], []⟩ [("_law_script", v)]) ∧ ∀ base : Heap, K.In base → base.Ns mainGlobals mg → FnG l.prog w K mg base 4 fa fd ["_law_script"] (spOf ⟨K, fun _ => 0, fun _ => []⟩ sp_law) := by
  have e := hfa.symm.trans (PySem.W.mg_of X G a7)
  cases e
  have B : BN mg := ⟨PySem.W.mg_none_of X G z_len, PySem.W.mg_none_of X G z_range, PySem.W.mg_none_of X G z_int, PySem.W.mg_none_of X G z_str, PySem.W.mg_none_of X G z_abs, PySem.W.mg_none_of X G z_list, PySem.W.mg_none_of X G z_tuple, PySem.W.mg_none_of X G z_any, PySem.W.mg_none_of X G z_all, PySem.W.mg_none_of X G z_repr, PySem.W.mg_none_of X G z_isinstance, PySem.W.mg_none_of X G z_bool, PySem.W.mg_none_of X G z_dict, PySem.W.mg_none_of X G z_set, PySem.W.mg_none_of X G z_sorted, PySem.W.mg_none_of X G z_zip, PySem.W.mg_none_of X G z_enumerate, PySem.W.mg_none_of X G z_max, PySem.W.mg_none_of X G z_min, PySem.W.mg_none_of X G z_sum, PySem.W.mg_none_of X G z_type, PySem.W.mg_none_of X G z_super, PySem.W.mg_none_of X G z_reversed⟩
  refine ⟨PySem.W.fnOf "law" "law" (defArgs s_law) (defBody s_law) (defScope s_law) .none kV7 dc7 pm7 an7 cd7 ct7, fun s v => .of_eq rfl, fun base _ _ => ?_⟩
  obtain ⟨S, hS⟩ : ∃ S : Sg, S = ⟨K, fun _ => 0, fun _ => []⟩ := ⟨_, rfl⟩
  have F0 : Fun S.K "_law_gauge" "_law_gauge" s_qgauge f0 (PySem.W.fnOf "_law_gauge" "_law_gauge" (defArgs s_qgauge) (defBody s_qgauge) (defScope s_qgauge) .none kV0 dc0 pm0 an0 cd0 ct0) := by rw [hS]; exact fun_mk (st := s_qgauge) l0 c0 k0
  have D_qgauge := C_qgauge (P := l.prog) (w := w) (S := S) (mg := mg) (base := base) B  ⟨_, _, PySem.W.mg_of X G a0, F0⟩
  have F1 : Fun S.K "_law_notch" "_law_notch" s_qnotch f1 (PySem.W.fnOf "_law_notch" "_law_notch" (defArgs s_qnotch) (defBody s_qnotch) (defScope s_qnotch) .none kV1 dc1 pm1 an1 cd1 ct1) := by rw [hS]; exact fun_mk (st := s_qnotch) l1 c1 k1
  have D_qnotch := C_qnotch (P := l.prog) (w := w) (S := S) (mg := mg) (base := base) B  ⟨_, _, PySem.W.mg_of X G a1, F1⟩
  have F2 : Fun S.K "_law_one" "_law_one" s_qone f2 (PySem.W.fnOf "_law_one" "_law_one" (defArgs s_qone) (defBody s_qone) (defScope s_qone) .none kV2 dc2 pm2 an2 cd2 ct2) := by rw [hS]; exact fun_mk (st := s_qone) l2 c2 k2
  have D_qone := C_qone (P := l.prog) (w := w) (S := S) (mg := mg) (base := base) B D_qnotch ⟨_, _, PySem.W.mg_of X G a2, F2⟩
  have F3 : Fun S.K "_law_odd" "_law_odd" s_qodd f3 (PySem.W.fnOf "_law_odd" "_law_odd" (defArgs s_qodd) (defBody s_qodd) (defScope s_qodd) .none kV3 dc3 pm3 an3 cd3 ct3) := by rw [hS]; exact fun_mk (st := s_qodd) l3 c3 k3
  have D_qodd := C_qodd (P := l.prog) (w := w) (S := S) (mg := mg) (base := base) B D_qone D_qnotch ⟨_, _, PySem.W.mg_of X G a3, F3⟩
  have F4 : Fun S.K "_law_is_number" "_law_is_number" s_qis_number f4 (PySem.W.fnOf "_law_is_number" "_law_is_number" (defArgs s_qis_number) (defBody s_qis_number) (defScope s_qis_number) .none kV4 dc4 pm4 an4 cd4 ct4) := by rw [hS]; exact fun_mk (st := s_qis_number) l4 c4 k4
  have D_qis_number := C_qis_number (P := l.prog) (w := w) (S := S) (mg := mg) (base := base) B  ⟨_, _, PySem.W.mg_of X G a4, F4⟩
  have F5 : Fun S.K "is_integer" "is_integer" s_is_integer f5 (PySem.W.fnOf "is_integer" "is_integer" (defArgs s_is_integer) (defBody s_is_integer) (defScope s_is_integer) .none kV5 dc5 pm5 an5 cd5 ct5) := by rw [hS]; exact fun_mk (st := s_is_integer) l5 c5 k5
  have D_is_integer := C_is_integer (P := l.prog) (w := w) (S := S) (mg := mg) (base := base) B  ⟨_, _, PySem.W.mg_of X G a5, F5⟩
  have F6 : Fun S.K "is_within" "is_within" s_is_within f6 (PySem.W.fnOf "is_within" "is_within" (defArgs s_is_within) (defBody s_is_within) (defScope s_is_within) .none kV6 dc6 pm6 an6 cd6 ct6) := by rw [hS]; exact fun_mk (st := s_is_within) l6 c6 k6
  have D_is_within := C_is_within (P := l.prog) (w := w) (S := S) (mg := mg) (base := base) D_is_integer ⟨_, _, PySem.W.mg_of X G a6, F6⟩
  have F7 : Fun S.K "law" "law" s_law fa (PySem.W.fnOf "law" "law" (defArgs s_law) (defBody s_law) (defScope s_law) .none kV7 dc7 pm7 an7 cd7 ct7) := by rw [hS]; exact fun_mk (st := s_law) l7 c7 k7
  have D_law := C_law (P := l.prog) (w := w) (S := S) (mg := mg) (base := base) B D_qgauge D_qnotch D_qodd D_qis_number D_is_within D_is_integer ⟨_, _, PySem.W.mg_of X G a7, F7⟩
  obtain ⟨f, fd, e1, e2, e3⟩ := D_law.ex
  have e4 := e1.symm.trans (PySem.W.mg_of X G a7)
  cases e4
  have e5 := Fun.uniq e2 F7
  subst e5 hS
  exact e3
end Lw
open PySem PySem.W PyProof.Rows
set_option maxRecDepth 100000 in
set_option maxHeartbeats 0 in
theorem PySem.Challenge.cw_roomstair_k02_plain_checks_holds : PySem.Challenge.rw_roomstair_k02_plain_checks.Holds := by
  w_on; o_law; k_head; (case hw => w_witness2)
  k_fill
  refine DL.walk_end (l := PySem.Challenge.rw_roomstair_k02_plain_checks) (n := 63) (k := 4) (S := fun K => ⟨K, fun _ => 0, fun _ => []⟩) (sp := Lw.sp_law) (x := "_law_script") rfl (by decide) rfl ⟨rfl, by decide, by decide⟩ (fun w h Y => PySem.W.kIn_of Y) (fun _ => rfl) (by decide) rfl ?F Lw.law_true
  case F =>
    intro w mg fa h KX G hmg
    refine' Lw.all_mk KX G hmg ?a0 ?l0 ?c0 ?k0 ?a1 ?l1 ?c1 ?k1 ?a2 ?l2 ?c2 ?k2 ?a3 ?l3 ?c3 ?k3 ?a4 ?l4 ?c4 ?k4 ?a5 ?l5 ?c5 ?k5 ?a6 ?l6 ?c6 ?k6 ?a7 ?l7 ?c7 ?k7 ?z_len ?z_range ?z_int ?z_str ?z_abs ?z_list ?z_tuple ?z_any ?z_all ?z_repr ?z_isinstance ?z_bool ?z_dict ?z_set ?z_sorted ?z_zip ?z_enumerate ?z_max ?z_min ?z_sum ?z_type ?z_super ?z_reversed
    (case a0 => k_is); (case l0 => k_is); (case c0 => k_is); (case k0 => k_is); (case a1 => k_is); (case l1 => k_is); (case c1 => k_is); (case k1 => k_is)
    (case a2 => k_is); (case l2 => k_is); (case c2 => k_is); (case k2 => k_is); (case a3 => k_is); (case l3 => k_is); (case c3 => k_is); (case k3 => k_is)
    (case a4 => k_is); (case l4 => k_is); (case c4 => k_is); (case k4 => k_is); (case a5 => k_is); (case l5 => k_is); (case c5 => k_is); (case k5 => k_is)
    (case a6 => k_is); (case l6 => k_is); (case c6 => k_is); (case k6 => k_is); (case a7 => k_is); (case l7 => k_is); (case c7 => k_is); (case k7 => k_is)
    (case z_len => k_is); (case z_range => k_is); (case z_int => k_is); (case z_str => k_is); (case z_abs => k_is); (case z_list => k_is); (case z_tuple => k_is); (case z_any => k_is)
    (case z_all => k_is); (case z_repr => k_is); (case z_isinstance => k_is); (case z_bool => k_is); (case z_dict => k_is); (case z_set => k_is); (case z_sorted => k_is); (case z_zip => k_is)
    (case z_enumerate => k_is); (case z_max => k_is); (case z_min => k_is); (case z_sum => k_is); (case z_type => k_is); (case z_super => k_is); (case z_reversed => k_is)
