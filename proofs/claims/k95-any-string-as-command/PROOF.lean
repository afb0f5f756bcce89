import PyProof.Rows.All
import HandS.ForMost
import HandS.ForExc
import HandS.TupAny
import HandS.Style
import HandS.IsInst
import HandS.Flow
import HandS.StrMore
import HandS.TupMul
import HandS.Replace
import HandS.WordsExc
import HandS.More
import HandS.Zip
import HandS.Defaults
import PyProof.ReprRoads
import PyProof.CallFns
import KE.GoesZip
import KE.GoesMore
import KE.GoesEnum
import HandS.Dict
import HandS.List
import HandS.Ends
import HandS.HeadEnd
import HandS.HeadHook1
import HandS.HeadHook2
import HandS.HeadHook3
import KE.KStateDown
import HandS.Head0
import HandS.Head1
import HandS.Head2
import Lean
import PySem.Challenge.RW_curvemeets_k95_any_string_as_command
set_option Elab.async false
set_option linter.all false
set_option maxRecDepth 100000
set_option maxHeartbeats 4000000
/-! De0: data, representation, slots, the state relation. -/
namespace De
open PySem PySem.Spec PyProof.Rows L2
abbrev D := PyData
abbrev Env := List (Option D)

/-- what a piece of program ends in: a value and the names, an exception (class number, its one field), or nothing that is said -/
inductive Out (α : Type) where
  | ok (a : α) (ρ : Env)
  | exc (c : Nat) (d : D) (ρ : Env)
  | bad

def Out.bind {α β : Type} (o : Out α) (f : α → Env → Out β) : Out β :=
  match o with
  | .ok a ρ => f a ρ
  | .exc c d ρ => .exc c d ρ
  | .bad => .bad

def lift {α : Type} (o : Option α) (ρ : Env) : Out α :=
  match o with
  | some a => .ok a ρ
  | none => .bad

def kD : Key → D
  | .inl i => .int i
  | .inr x => .str x

/-! ### a value stands for data, in the frozen part F -/
mutual
inductive Rep (K : PySem.W.Frag) (F : Hp) : V → D → Prop
  | non : Rep K F .non .none
  | bl (b : Bool) : Rep K F (.bl b) (.bool b)
  | int (i : Int) : Rep K F (.int i) (.int i)
  | str (x : Str) : Rep K F (.str x) (.str x)
  | lst {a : Addr} {xs : List V} {ds : List D} : F a = some (.lst xs) → RepA K F xs ds → Rep K F (.ref a) (.list ds)
  | tup {a : Addr} {xs : List V} {ds : List D} : SqT K F a xs → RepA K F xs ds → Rep K F (.ref a) (.tuple ds)
  | dic {a : Addr} {kvs : List (Key × V)} {ds : List (D × D)} : Rd F a (.dK kvs) → RepK K F kvs ds → Rep K F (.ref a) (.dict ds)
inductive RepA (K : PySem.W.Frag) (F : Hp) : List V → List D → Prop
  | nil : RepA K F [] []
  | cons {v : V} {vs : List V} {d : D} {ds : List D} : Rep K F v d → RepA K F vs ds → RepA K F (v :: vs) (d :: ds)
inductive RepK (K : PySem.W.Frag) (F : Hp) : List (Key × V) → List (D × D) → Prop
  | nil : RepK K F [] []
  | cons {k : Key} {v : V} {vs : List (Key × V)} {d : D} {ds : List (D × D)} : Rep K F v d → RepK K F vs ds → RepK K F ((k, v) :: vs) ((kD k, d) :: ds)
end

section
variable {K : PySem.W.Frag} {F F' H H' : Hp}
theorem Same.rd {a : Addr} {o : HO} (s : Same F F') (h : Rd F a o) : Rd F' a o := by
  rcases h with h | ⟨u, h⟩
  · exact .inl (s _ _ h)
  · exact .inr ⟨u, s _ _ h⟩
theorem Same.sqT {a : Addr} {xs : List V} (s : Same F F') (h : SqT K F a xs) : SqT K F' a xs := by
  rcases h with h | h
  · exact .inl (Same.rd s h)
  · exact .inr h
mutual
theorem Rep.mono (s : Same F F') : ∀ (d : D) (v : V), Rep K F v d → Rep K F' v d
  | .none, _, h => by cases h; exact .non
  | .bool b, _, h => by cases h; exact .bl b
  | .int i, _, h => by cases h; exact .int i
  | .str x, _, h => by cases h; exact .str x
  | .list ds, _, h => by
    cases h with
    | lst h1 h2 => exact .lst (s _ _ h1) (RepA.mono s ds _ h2)
  | .tuple ds, _, h => by
    cases h with
    | tup h1 h2 => exact .tup (Same.sqT s h1) (RepA.mono s ds _ h2)
  | .dict ds, _, h => by
    cases h with
    | dic h1 h2 => exact .dic (Same.rd s h1) (RepK.mono s ds _ h2)
theorem RepA.mono (s : Same F F') : ∀ (ds : List D) (vs : List V), RepA K F vs ds → RepA K F' vs ds
  | [], _, h => by cases h; exact .nil
  | d :: ds, _, h => by
    cases h with
    | cons h1 h2 => exact .cons (Rep.mono s d _ h1) (RepA.mono s ds _ h2)
theorem RepK.mono (s : Same F F') : ∀ (ds : List (D × D)) (vs : List (Key × V)), RepK K F vs ds → RepK K F' vs ds
  | [], _, h => by cases h; exact .nil
  | (e, d) :: ds, _, h => by
    cases h with
    | cons h1 h2 => exact .cons (Rep.mono s d _ h1) (RepK.mono s ds _ h2)
end
theorem Rep.up {v : V} {d : D} (h : Rep K F v d) (s : Same F F') : Rep K F' v d := Rep.mono s d v h
theorem RepA.up {v : List V} {d : List D} (h : RepA K F v d) (s : Same F F') : RepA K F' v d := RepA.mono s d v h
theorem RepK.up {v : List (Key × V)} {d : List (D × D)} (h : RepK K F v d) (s : Same F F') : RepK K F' v d := RepK.mono s d v h
theorem RepA.length : ∀ {vs : List V} {ds : List D}, RepA K F vs ds → vs.length = ds.length
  | _, [], h => by cases h; rfl
  | _, d :: ds, h => by
    cases h with
    | cons h1 h2 => simp [RepA.length h2]
theorem RepA.get : ∀ {vs : List V} {ds : List D} {i : Nat} {d : D}, RepA K F vs ds → ds[i]? = some d → ∃ v, vs[i]? = some v ∧ Rep K F v d
  | _, [], _, _, h, e => by simp at e
  | _, d :: ds, 0, _, h, e => by
    cases h with
    | cons h1 h2 => exact ⟨_, rfl, by simp at e; subst e; exact h1⟩
  | _, d :: ds, i + 1, _, h, e => by
    cases h with
    | cons h1 h2 =>
      obtain ⟨v, e1, r⟩ := RepA.get (i := i) h2 (by simpa using e)
      exact ⟨v, by simpa using e1, r⟩
theorem RepA.append : ∀ {vs ws : List V} {ds es : List D}, RepA K F vs ds → RepA K F ws es → RepA K F (vs ++ ws) (ds ++ es)
  | _, _, [], _, h, h' => by cases h; exact h'
  | _, _, d :: ds, _, h, h' => by
    cases h with
    | cons h1 h2 => exact .cons h1 (RepA.append h2 h')
theorem RepA.set {v : V} {d : D} (r : Rep K F v d) : ∀ {vs : List V} {ds : List D} (i : Nat), RepA K F vs ds → RepA K F (vs.set i v) (ds.set i d)
  | _, [], _, h => by cases h; exact .nil
  | _, e :: ds, 0, h => by
    cases h with
    | cons h1 h2 => exact .cons r h2
  | _, e :: ds, i + 1, h => by
    cases h with
    | cons h1 h2 => exact .cons h1 (RepA.set r i h2)
theorem RepA.take : ∀ {vs : List V} {ds : List D} (n : Nat), RepA K F vs ds → RepA K F (vs.take n) (ds.take n)
  | _, _, 0, _ => .nil
  | _, [], n + 1, h => by cases h; exact .nil
  | _, d :: ds, n + 1, h => by
    cases h with
    | cons h1 h2 => exact .cons h1 (RepA.take n h2)
theorem RepA.drop : ∀ {vs : List V} {ds : List D} (n : Nat), RepA K F vs ds → RepA K F (vs.drop n) (ds.drop n)
  | _, _, 0, h => h
  | _, [], n + 1, h => by cases h; exact .nil
  | _, d :: ds, n + 1, h => by
    cases h with
    | cons h1 h2 => exact RepA.drop n h2
theorem RepA.dropLast : ∀ {vs : List V} {ds : List D}, RepA K F vs ds → RepA K F vs.dropLast ds.dropLast := fun {vs ds} h => by
  rw [List.dropLast_eq_take, List.dropLast_eq_take, h.length]
  exact h.take _
end

/-! ### slots -/
/-- how a slot's data are held: frozen; a list of the slot's own; a list of lists of its own; a dict of its own; sc: a list that is only read (the script) -/
inductive SK where
  | im | ml | mm | md | sc
  deriving DecidableEq
def RowsR (K : PySem.W.Frag) (F H : Hp) (bs : List Addr) (rows : List D) : Prop :=
  Paired (fun (b : Addr) (r : D) => ∃ xs ds, r = .list ds ∧ H b = some (.lst xs) ∧ RepA K F xs ds) bs rows
def SlotR (K : PySem.W.Frag) (F H : Hp) : SK → Option D → Option V → List Addr → Prop
  | _, none, _, fp => fp = []
  | .im, some d, sv, fp => fp = [] ∧ ∃ v, sv = some v ∧ Rep K F v d
  | .ml, some d, sv, fp => ∃ a xs ds, sv = some (.ref a) ∧ d = .list ds ∧ H a = some (.lst xs) ∧ RepA K F xs ds ∧ fp = [a]
  | .mm, some d, sv, fp => ∃ a bs rows, sv = some (.ref a) ∧ d = .list rows ∧ H a = some (.lst (bs.map .ref)) ∧ RowsR K F H bs rows ∧ fp = a :: bs
  | .md, some d, sv, fp => ∃ a kvs ds, sv = some (.ref a) ∧ d = .dict ds ∧ H a = some (.dK kvs) ∧ RepK K F kvs ds ∧ fp = [a]
  | .sc, some d, sv, fp => fp = [] ∧ ∃ a xs ds, sv = some (.ref a) ∧ d = .list ds ∧ SqL K F a xs ∧ RepA K F xs ds

section
variable {K : PySem.W.Frag} {F F' H H' : Hp}
theorem RowsR.up {bs : List Addr} {rows : List D} (h : RowsR K F H bs rows) (s : Same F F') (k : ∀ b ∈ bs, H' b = H b) : RowsR K F' H' bs rows := by
  unfold RowsR at *
  induction h with
  | nil => exact .nil
  | cons r t ih =>
    obtain ⟨xs, ds, e, hb, ra⟩ := r
    exact .cons ⟨xs, ds, e, by rw [k _ List.mem_cons_self]; exact hb, ra.up s⟩ (ih fun b hb => k b (List.mem_cons_of_mem _ hb))
theorem SlotR.up {k : SK} {od : Option D} {sv : Option V} {fp : List Addr} (h : SlotR K F H k od sv fp) (s : Same F F') (e : ∀ b ∈ fp, H' b = H b) : SlotR K F' H' k od sv fp := by
  cases od with
  | none => cases k <;> exact h
  | some d =>
    cases k with
    | im =>
      obtain ⟨e1, v, e2, r⟩ := h
      exact ⟨e1, v, e2, r.up s⟩
    | ml =>
      obtain ⟨a, xs, ds, e1, e2, ha, r, e3⟩ := h
      exact ⟨a, xs, ds, e1, e2, by rw [e a (by rw [e3]; exact List.mem_cons_self)]; exact ha, r.up s, e3⟩
    | mm =>
      obtain ⟨a, bs, rows, e1, e2, ha, r, e3⟩ := h
      exact ⟨a, bs, rows, e1, e2, by rw [e a (by rw [e3]; exact List.mem_cons_self)]; exact ha, r.up s fun b hb => e b (by rw [e3]; exact List.mem_cons_of_mem _ hb), e3⟩
    | md =>
      obtain ⟨a, kvs, ds, e1, e2, ha, r, e3⟩ := h
      exact ⟨a, kvs, ds, e1, e2, by rw [e a (by rw [e3]; exact List.mem_cons_self)]; exact ha, r.up s, e3⟩
    | sc =>
      obtain ⟨e1, a, xs, ds, e2, e3, ha, r⟩ := h
      exact ⟨e1, a, xs, ds, e2, e3, s.seq ha, r.up s⟩
theorem RowsR.there {bs : List Addr} {rows : List D} (h : RowsR K F H bs rows) : ∀ b ∈ bs, ∃ o, H b = some o := by
  unfold RowsR at h
  induction h with
  | nil => intro b hb; cases hb
  | cons r t ih =>
    intro b hb
    obtain ⟨xs, ds, e, hb', ra⟩ := r
    rcases List.mem_cons.mp hb with rfl | hb
    · exact ⟨_, hb'⟩
    · exact ih b hb
theorem SlotR.there {k : SK} {od : Option D} {sv : Option V} {fp : List Addr} (h : SlotR K F H k od sv fp) : ∀ b ∈ fp, ∃ o, H b = some o := by
  intro b hb
  cases od with
  | none =>
    have e : fp = [] := by cases k <;> exact h
    rw [e] at hb; cases hb
  | some d =>
    cases k with
    | im => rw [h.1] at hb; cases hb
    | sc => rw [h.1] at hb; cases hb
    | ml =>
      obtain ⟨a, xs, ds, e1, e2, ha, r, e3⟩ := h
      rw [e3] at hb
      rcases List.mem_cons.mp hb with rfl | hb
      · exact ⟨_, ha⟩
      · cases hb
    | mm =>
      obtain ⟨a, bs, rows, e1, e2, ha, r, e3⟩ := h
      rw [e3] at hb
      rcases List.mem_cons.mp hb with rfl | hb
      · exact ⟨_, ha⟩
      · exact r.there b hb
    | md =>
      obtain ⟨a, kvs, ds, e1, e2, ha, r, e3⟩ := h
      rw [e3] at hb
      rcases List.mem_cons.mp hb with rfl | hb
      · exact ⟨_, ha⟩
      · cases hb
theorem SlotR.none' {k : SK} {sv : Option V} : SlotR K F H k none sv [] := by cases k <;> rfl
theorem SlotR.nil_of {k : SK} {sv : Option V} {fp : List Addr} (h : SlotR K F H k none sv fp) : fp = [] := by cases k <;> exact h
end

/-! ### the state: names' data ρ, slots σ, the frozen part F of H; G: what stands around and stays; p: the object of slot 0 that is handed back changed; ex: objects of nobody's yet -/
structure SR (K : PySem.W.Frag) (io : Bool) (ks : List SK) (p : Option Addr) (G : Hp) (ex : List Addr) (ρ : Env) (σ : L2.St) (F H : Hp) : Prop where
  same : Same F H
  len : ρ.length = σ.length
  pio : io = false → p = none
  pin : ∀ a, p = some a → σ[0]? = some (some (V.ref a))
  gs : Same G H
  gd : ∀ b o, G b = some o → F b = none
  st : ∃ fp : Nat → List Addr, (∀ i, SlotR K F H (ks.getD i .im) (ρ[i]?.join) (σ[i]?.join) (fp i)) ∧ (∀ i, (fp i).Nodup) ∧ (∀ i j a, a ∈ fp i → a ∈ fp j → i = j) ∧ (∀ i a, a ∈ fp i → F a = none ∧ G a = none ∧ a ∉ ex)

/-- F and H have grown: what is new in F is new in H -/
structure Grow (F H F' H' : Hp) : Prop where
  f : Same F F'
  h : Same H H'
  s : Same F' H'
  n : ∀ b o, H b = some o → F' b = F b
theorem Grow.refl {F H : Hp} (s : Same F H) : Grow F H F H := ⟨Same.refl _, Same.refl _, s, fun _ _ _ => rfl⟩
theorem Grow.trans {F H F1 H1 F2 H2 : Hp} (a : Grow F H F1 H1) (b : Grow F1 H1 F2 H2) : Grow F H F2 H2 :=
  ⟨a.f.trans b.f, a.h.trans b.h, b.s, fun c o e => (b.n c o (a.h c o e)).trans (a.n c o e)⟩
theorem same_new {H : Hp} {q : Addr} {o : HO} (hq : H q = none) : Same H (upd H q o) := fun b u e => by
  rw [upd_ne (ne_of_none e hq)]; exact e
theorem same_not {F H : Hp} (s : Same F H) {q : Addr} (hq : H q = none) : F q = none := s.free hq
theorem Grow.alloc {F H : Hp} {q : Addr} {o : HO} (s : Same F H) (hq : H q = none) : Grow F H (upd F q o) (upd H q o) :=
  ⟨same_new (same_not s hq), same_new hq, fun b u e => by
    by_cases hb : b = q
    · subst hb; rw [upd_same] at e ⊢; exact e
    · rw [upd_ne hb] at e ⊢; exact s b u e, fun b u e => upd_ne (ne_of_none e hq)⟩
section
variable {K : PySem.W.Frag} {io : Bool} {ks : List SK} {p : Option Addr} {G : Hp} {ex : List Addr} {ρ : Env} {σ : L2.St} {F F' H H' : Hp}
theorem SR.grow (r : SR K io ks p G ex ρ σ F H) (g : Grow F H F' H') : SR K io ks p G ex ρ σ F' H' := by
  obtain ⟨fp, h1, h2, h3, h4⟩ := r.st
  have th : ∀ i, ∀ b ∈ fp i, H' b = H b := fun i b hb => by
    obtain ⟨o, e⟩ := (h1 i).there b hb
    rw [e, g.h b o e]
  refine ⟨g.s, r.len, r.pio, r.pin, r.gs.trans g.h, fun b o e => ?_, fp, fun i => (h1 i).up g.f (th i), h2, h3, fun i a ha => ?_⟩
  · rw [g.n b o (r.gs b o e)]; exact r.gd b o e
  · obtain ⟨o, e⟩ := (h1 i).there a ha
    obtain ⟨z1, z2, z3⟩ := h4 i a ha
    exact ⟨by rw [g.n a o e]; exact z1, z2, z3⟩
/-- temps forgotten -/
theorem SR.noex (r : SR K io ks p G ex ρ σ F H) : SR K io ks p G [] ρ σ F H := by
  obtain ⟨fp, h1, h2, h3, h4⟩ := r.st
  exact ⟨r.same, r.len, r.pio, r.pin, r.gs, r.gd, fp, h1, h2, h3, fun i a ha => ⟨(h4 i a ha).1, (h4 i a ha).2.1, by simp⟩⟩
end
end De
set_option maxHeartbeats 4000000
/-! De1: freezing, the judgements, what follows. -/
namespace De
open PySem PySem.Spec L2
abbrev Sg := L2.St
/-! ### freezing -/
def frz (fp : List Addr) (F H : Hp) : Hp := fun b => if b ∈ fp then H b else F b
section
variable {K : PySem.W.Frag} {F F' H H' : Hp}
theorem frz_in {fp : List Addr} {b : Addr} (h : b ∈ fp) : frz fp F H b = H b := if_pos h
theorem frz_out {fp : List Addr} {b : Addr} (h : b ∉ fp) : frz fp F H b = F b := if_neg h
theorem frz_same {fp : List Addr} (h : ∀ a ∈ fp, F a = none) : Same F (frz fp F H) := fun b o e => by
  rw [frz_out fun z => by rw [h b z] at e; cases e]; exact e
theorem frz_up {fp : List Addr} (s : Same F H) : Same (frz fp F H) H := fun b o e => by
  by_cases hb : b ∈ fp
  · rw [frz_in hb] at e; exact e
  · rw [frz_out hb] at e; exact s b o e
theorem RowsR.rep {bs : List Addr} {rows : List D} (h : RowsR K F H bs rows) (s : Same F F') (k : ∀ b ∈ bs, F' b = H b) : RepA K F' (bs.map V.ref) rows := by
  unfold RowsR at h
  induction h with
  | nil => exact .nil
  | cons r t ih =>
    obtain ⟨xs, ds, e, hb, ra⟩ := r
    subst e
    exact .cons (.lst (by rw [k _ List.mem_cons_self]; exact hb) (ra.up s)) (ih fun b hb => k b (List.mem_cons_of_mem _ hb))
/-- an own thing, frozen -/
theorem SlotR.rep {k : SK} {d : D} {v : V} {fp : List Addr} (nsc : k ≠ .sc) (h : SlotR K F H k (some d) (some v) fp) (s : Same F F') (e : ∀ b ∈ fp, F' b = H b) : Rep K F' v d := by
  cases k with
  | sc => exact absurd rfl nsc
  | im =>
    obtain ⟨_, u, e2, r⟩ := h
    cases e2
    exact r.up s
  | ml =>
    obtain ⟨a, xs, ds, e1, e2, ha, r, e3⟩ := h
    cases e1
    subst e2
    exact .lst (by rw [e a (by rw [e3]; exact List.mem_cons_self)]; exact ha) (r.up s)
  | mm =>
    obtain ⟨a, bs, rows, e1, e2, ha, r, e3⟩ := h
    cases e1
    subst e2
    exact .lst (by rw [e a (by rw [e3]; exact List.mem_cons_self)]; exact ha) (r.rep s fun b hb => e b (by rw [e3]; exact List.mem_cons_of_mem _ hb))
  | md =>
    obtain ⟨a, kvs, ds, e1, e2, ha, r, e3⟩ := h
    cases e1
    subst e2
    exact .dic (.inl (by rw [e a (by rw [e3]; exact List.mem_cons_self)]; exact ha)) (r.up s)
end

/-- the value v of data d in the way k, of objects of nobody else's -/
def ROk (K : PySem.W.Frag) (io : Bool) (ks : List SK) (p : Option Addr) (G : Hp) (ρ : Env) (σ : Sg) (k : SK) (d : D) (F H : Hp) (v : V) : Prop :=
  ∃ fp, SR K io ks p G fp ρ σ F H ∧ SlotR K F H k (some d) (some v) fp ∧ fp.Nodup ∧ ∀ a ∈ fp, F a = none ∧ G a = none
section
variable {K : PySem.W.Frag} {io : Bool} {ks ks' : List SK} {p : Option Addr} {G : Hp} {ρ : Env} {σ : Sg} {k : SK} {d : D} {F H : Hp} {v : V}
theorem ROk.sr (r : ROk K io ks p G ρ σ k d F H v) : SR K io ks p G [] ρ σ F H := let ⟨_, s, _⟩ := r; s.noex
theorem ROk.im (r : ROk K io ks p G ρ σ .im d F H v) : SR K io ks p G [] ρ σ F H ∧ Rep K F v d := by
  obtain ⟨fp, s, ⟨_, u, e, h⟩, _⟩ := r
  cases e
  exact ⟨s.noex, h⟩
theorem ROk.of (s : SR K io ks p G [] ρ σ F H) (h : Rep K F v d) : ROk K io ks p G ρ σ .im d F H v :=
  ⟨[], s, ⟨rfl, v, rfl, h⟩, List.nodup_nil, fun _ z => nomatch z⟩
/-- frozen -/
theorem ROk.fz (nsc : k ≠ .sc) (r : ROk K io ks p G ρ σ k d F H v) : ∃ F', Same F F' ∧ ROk K io ks p G ρ σ .im d F' H v := by
  obtain ⟨fp, s, h, nd, fr⟩ := r
  have s1 : Same F (frz fp F H) := frz_same fun a ha => (fr a ha).1
  refine ⟨frz fp F H, s1, .of ?_ (h.rep nsc s1 fun b hb => frz_in hb)⟩
  obtain ⟨f, h1, h2, h3, h4⟩ := s.st
  refine ⟨frz_up s.same, s.len, s.pio, s.pin, s.gs, fun b o e => ?_, f, fun i => (h1 i).up s1 fun _ _ => rfl, h2, h3, fun i a ha => ?_⟩
  · rw [frz_out fun z => by rw [(fr b z).2] at e; cases e]; exact s.gd b o e
  · obtain ⟨z1, z2, z3⟩ := h4 i a ha
    exact ⟨by rw [frz_out z3]; exact z1, z2, by simp⟩
/-- several slots frozen: those of S -/
theorem SR.freeze {ex : List Addr} (S : Nat → Bool) (hk : ∀ i, ks'.getD i .im = if S i then .im else ks.getD i .im) (hs : ∀ i, S i = true → ks.getD i .im ≠ .sc) (s : SR K io ks p G ex ρ σ F H) :
    ∃ F', Same F F' ∧ SR K io ks' p G ex ρ σ F' H ∧ ∀ a ∈ ex, F a = none → F' a = none := by
  classical
  obtain ⟨f, h1, h2, h3, h4⟩ := s.st
  let F' : Hp := fun b => if ∃ i, S i = true ∧ b ∈ f i then H b else F b
  have hin : ∀ b i, S i = true → b ∈ f i → F' b = H b := fun b i hi hb => if_pos ⟨i, hi, hb⟩
  have hout : ∀ b, (¬ ∃ i, S i = true ∧ b ∈ f i) → F' b = F b := fun b hb => if_neg hb
  have s1 : Same F F' := fun b o e => by
    rw [hout b fun ⟨i, _, hb⟩ => by rw [(h4 i b hb).1] at e; cases e]; exact e
  have s2 : Same F' H := fun b o e => by
    by_cases hb : ∃ i, S i = true ∧ b ∈ f i
    · obtain ⟨i, hi, hb⟩ := hb
      rw [hin b i hi hb] at e; exact e
    · rw [hout b hb] at e; exact s.same b o e
  refine ⟨F', s1, ⟨s2, s.len, s.pio, s.pin, s.gs, fun b o e => ?_, fun i => if S i then [] else f i, fun i => ?_, fun i => ?_, fun i j a hi hj => ?_, fun i a ha => ?_⟩, fun a ha e => ?_⟩
  · rw [hout b fun ⟨i, _, hb⟩ => by rw [(h4 i b hb).2.1] at e; cases e]; exact s.gd b o e
  · have hi := h1 i
    rw [hk i]
    show SlotR K F' H (if S i then .im else ks.getD i .im) _ _ (if S i then [] else f i)
    cases hS : S i with
    | false =>
      simp only [Bool.false_eq_true, if_false]
      exact hi.up s1 fun _ _ => rfl
    | true =>
      simp only [if_true]
      cases hd : ρ[i]?.join with
      | none => exact SlotR.none'
      | some d =>
        rw [hd] at hi
        cases hv : σ[i]?.join with
        | none =>
          rw [hv] at hi
          cases hki : ks.getD i .im <;> rw [hki] at hi
          · obtain ⟨_, u, e, _⟩ := hi; cases e
          · obtain ⟨_, _, _, e, _⟩ := hi; cases e
          · obtain ⟨_, _, _, e, _⟩ := hi; cases e
          · obtain ⟨_, _, _, e, _⟩ := hi; cases e
          · obtain ⟨_, _, _, _, e, _⟩ := hi; cases e
        | some v =>
          rw [hv] at hi
          exact ⟨rfl, v, rfl, hi.rep (hs i hS) s1 fun b hb => hin b i hS hb⟩
  · dsimp only
    split
    · exact List.nodup_nil
    · exact h2 i
  · dsimp only at hi hj
    split at hi
    · cases hi
    · split at hj
      · cases hj
      · exact h3 i j a hi hj
  · dsimp only at ha
    split at ha
    · cases ha
    · rename_i hS
      obtain ⟨z1, z2, z3⟩ := h4 i a ha
      refine ⟨?_, z2, z3⟩
      rw [hout a fun ⟨j, hj, hb⟩ => hS (by rw [h3 i j a ha hb]; exact hj)]
      exact z1
  · rw [hout a fun ⟨i, _, hb⟩ => (h4 i a hb).2.2 ha]; exact e
end

/-! ### what is asked of an outcome -/
/-- how an exception of the program's lies: its class, its own dict with the one field -/
def XR (K : PySem.W.Frag) (xt : Nat → Addr × Str) (F : Hp) (c : Nat) (d : D) (cls : Value) (da : Option Addr) : Prop :=
  cls = .ref (xt c).1 ∧ ∃ dx v, da = some dx ∧ F dx = some (.xd [((xt c).2, v)]) ∧ Rep K F v d
/-- kinds at an end: all frozen but the object that is handed back -/
def kfb (io : Bool) (kx ks : List SK) : Bool := decide (kx = if io || decide (ks.getD 0 .im = .sc) then [ks.getD 0 .im] else []) && (ks.drop 1).all fun k => decide (k ≠ .sc)
theorem SR.kf {K : PySem.W.Frag} {io : Bool} {kx ks : List SK} {p : Option Addr} {G : Hp} {ex : List Addr} {ρ : Env} {σ : Sg} {F H : Hp} (h : kfb io kx ks = true) (s : SR K io ks p G ex ρ σ F H) :
    ∃ F', Same F F' ∧ SR K io kx p G ex ρ σ F' H ∧ ∀ a ∈ ex, F a = none → F' a = none := by
  unfold kfb at h
  simp only [Bool.and_eq_true, decide_eq_true_eq, List.all_eq_true] at h
  obtain ⟨h1, h2⟩ := h
  have hne : ∀ i, i ≠ 0 → ks.getD i .im ≠ .sc := fun i hi => by
    rw [List.getD_eq_getElem?_getD]
    cases e : ks[i]? with
    | none => simp
    | some k =>
      refine h2 k (List.mem_of_getElem? (i := i - 1) ?_)
      rw [List.getElem?_drop, show 1 + (i - 1) = i by omega]
      exact e
  refine s.freeze (fun i => !(decide (i = 0) && (io || decide (ks.getD 0 .im = .sc)))) (fun i => ?_) fun i hi => ?_
  · subst h1
    cases hc : (io || decide (ks.getD 0 .im = .sc)) with
    | true =>
      cases i with
      | zero => simp
      | succ i => simp
    | false => simp
  · simp only [Bool.not_eq_true', Bool.and_eq_false_iff, decide_eq_false_iff_not, Bool.or_eq_false_iff] at hi
    rcases hi with hi | hi
    · exact hne i hi
    · by_cases h0 : i = 0
      · subst h0; exact hi.2
      · exact hne i h0
structure Cs where
  xt : Nat → Addr × Str
  W : WX
  io : Bool
  kx : List SK
  rm : SK
def PostG {α : Type} (K : PySem.W.Frag) (C : Cs) (p : Option Addr) (G : Hp) (F : Hp) (o : Out α) (R : α → Env → Hp → Hp → Prop) : Prop :=
  match o with
  | .ok a ρ => ∀ F' H', Same F F' → R a ρ F' H'
  | .exc c d ρ => ∀ F' H' σ cls da, Same F F' → SR K C.io C.kx p G [] ρ σ F' H' → XR K C.xt F' c d cls da → C.W cls da σ H'
  | .bad => False
section
variable {K : PySem.W.Frag} {C : Cs} {p : Option Addr} {G F F1 : Hp} {α β : Type}
theorem PostG.mono {o : Out α} {R : α → Env → Hp → Hp → Prop} (h : PostG K C p G F o R) (s : Same F F1) : PostG K C p G F1 o R := by
  cases o with
  | ok a ρ => exact fun F' H' s' => h F' H' (s.trans s')
  | exc c d ρ => exact fun F' H' σ cls da s' => h F' H' σ cls da (s.trans s')
  | bad => exact h
theorem PostG.imp {o : Out α} {R R' : α → Env → Hp → Hp → Prop} (h : PostG K C p G F o R) (i : ∀ a ρ F' H', Same F F' → R a ρ F' H' → R' a ρ F' H') : PostG K C p G F o R' := by
  cases o with
  | ok a ρ => exact fun F' H' s' => i a ρ F' H' s' (h F' H' s')
  | exc c d ρ => exact h
  | bad => exact h
theorem PostG.bind {o : Out α} {k : α → Env → Out β} {R : β → Env → Hp → Hp → Prop} (h : PostG K C p G F (o.bind k) R) : PostG K C p G F o (fun a ρ F1 _ => PostG K C p G F1 (k a ρ) R) := by
  cases o with
  | ok a ρ => exact fun F' H' s' => PostG.mono h s'
  | exc c d ρ => exact h
  | bad => exact h
end

/-! ### what the machine does -/
structure WE (X : Cx) (e : Expr) (σ : Sg) (H : Hp) (Q : VK) : Prop where
  run : ∀ pins s, Inv X pins σ H s → wpAny (model X.prog X.w) X.A (eval e X.env) (EP X pins σ Q) X.xe s
structure WT (X : Cx) (e : Expr) (σ : Sg) (H : Hp) (Q : Bool → Hp → Prop) : Prop where
  run : ∀ pins s, Inv X pins σ H s → wpAny (model X.prog X.w) X.A (isTrue e X.env (eval e X.env)) (TP X pins σ Q) X.xe s
structure WW (X : Cx) (e : Expr) (σ : Sg) (H : Hp) (Q : Bool → Hp → Prop) : Prop where
  run : ∀ wh pins s, Inv X pins σ H s → wpAny (model X.prog X.w) X.A (isTrue e X.env wh) (TP X pins σ Q) X.xe s
structure WA (X : Cx) (es : List Expr) (σ : Sg) (H : Hp) (Q : List V → Hp → Prop) : Prop where
  run : ∀ pos pins s, Inv X pins σ H s → wpAny (model X.prog X.w) X.A (spliced (backTo pos (starEach es X.env))) (AP X pins σ Q) X.xe s
structure WS (X : Cx) (st : Stmt) (D : Ends) (σ : Sg) (H : Hp) : Prop where
  run : ∀ pins s, Inv X pins σ H s → wpAny (model X.prog X.w) X.A (exec st X.env) (SP X pins D) X.xe s
structure WSs (X : Cx) (st : List Stmt) (D : Ends) (σ : Sg) (H : Hp) : Prop where
  run : ∀ pins s, Inv X pins σ H s → wpAny (model X.prog X.w) X.A (execs st X.env) (SP X pins D) X.xe s
structure WG (X : Cx) (tg : Expr) (v : V) (σ : Sg) (H : Hp) (Q : Sg → Hp → Prop) : Prop where
  run : ∀ pins s u, Inv X pins σ H s → RelV v u → wpAny (model X.prog X.w) X.A (assign tg X.env u) (fun _ s' => ∃ σ' H', Inv X pins σ' H' s' ∧ Q σ' H') X.xe s
section
variable {X : Cx} {e : Expr} {es : List Expr} {st : Stmt} {sts : List Stmt} {σ : Sg} {H : Hp}
theorem pe_we : PE X e (WE X e) := ⟨fun pins s σ H Q I h => h.run pins s I⟩
theorem pt_wt : PT X e (WT X e) := ⟨fun pins s σ H Q I h => h.run pins s I⟩
theorem pw_ww : PW X e (WW X e) := ⟨fun wh pins s σ H Q I h => h.run wh pins s I⟩
theorem pa_wa : PA X es (WA X es) := ⟨fun pos pins s σ H Q I h => h.run pos pins s I⟩
theorem ps_ws : PS X st (WS X st) := ⟨fun pins s σ H D I h => h.run pins s I⟩
theorem pss_wss : PSs X sts (WSs X sts) := ⟨fun pins s σ H D I h => h.run pins s I⟩
theorem pg_wg : PG X e (WG X e) := ⟨fun pins s σ H v u Q I r h => h.run pins s u I r⟩
theorem we_of {t : TE} {Q : VK} (h : PE X e t) (q : t σ H Q) : WE X e σ H Q := ⟨fun pins s I => h.run pins s σ H Q I q⟩
theorem wt_of {t : TT} {Q : Bool → Hp → Prop} (h : PT X e t) (q : t σ H Q) : WT X e σ H Q := ⟨fun pins s I => h.run pins s σ H Q I q⟩
theorem ww_of {t : TT} {Q : Bool → Hp → Prop} (h : PW X e t) (q : t σ H Q) : WW X e σ H Q := ⟨fun wh pins s I => h.run wh pins s σ H Q I q⟩
theorem wa_of {t : TA} {Q : List V → Hp → Prop} (h : PA X es t) (q : t σ H Q) : WA X es σ H Q := ⟨fun pos pins s I => h.run pos pins s σ H Q I q⟩
theorem ws_of {t : TS} {D : Ends} (h : PS X st t) (q : t D σ H) : WS X st D σ H := ⟨fun pins s I => h.run pins s σ H D I q⟩
theorem wss_of {t : TS} {D : Ends} (h : PSs X sts t) (q : t D σ H) : WSs X sts D σ H := ⟨fun pins s I => h.run pins s σ H D I q⟩
theorem wg_of {t : TG} {v : V} {Q : Sg → Hp → Prop} (h : PG X e t) (q : t v σ H Q) : WG X e v σ H Q := ⟨fun pins s u I r => h.run pins s σ H v u Q I r q⟩
end

/-! ### the judgements -/
/-- e computes f (from the names' data), in the way k -/
def EOk (X : Cx) (C : Cs) (ks : List SK) (k : SK) (e : Expr) (f : Env → Out D) : Prop :=
  ∀ p G ρ σ F H Q, SR X.K C.io ks p G [] ρ σ F H → PostG X.K C p G F (f ρ) (fun d ρ' F' H' => ∀ v, ROk X.K C.io ks p G ρ' σ k d F' H' v → Q v H') → WE X e σ H Q
def TOk (X : Cx) (C : Cs) (ks : List SK) (e : Expr) (f : Env → Out Bool) : Prop :=
  ∀ p G ρ σ F H Q, SR X.K C.io ks p G [] ρ σ F H → PostG X.K C p G F (f ρ) (fun b ρ' F' H' => SR X.K C.io ks p G [] ρ' σ F' H' → Q b H') → WT X e σ H Q
def WOk (X : Cx) (C : Cs) (ks : List SK) (e : Expr) (f : Env → Out Bool) : Prop :=
  ∀ p G ρ σ F H Q, SR X.K C.io ks p G [] ρ σ F H → PostG X.K C p G F (f ρ) (fun b ρ' F' H' => SR X.K C.io ks p G [] ρ' σ F' H' → Q b H') → WW X e σ H Q
def AOk (X : Cx) (C : Cs) (ks : List SK) (es : List Expr) (f : Env → Out (List D)) : Prop :=
  ∀ p G ρ σ F H Q, SR X.K C.io ks p G [] ρ σ F H → PostG X.K C p G F (f ρ) (fun ds ρ' F' H' => ∀ vs, SR X.K C.io ks p G [] ρ' σ F' H' → RepA X.K F' vs ds → Q vs H') → WA X es σ H Q
inductive SO where
  | nx | ret (d : D)
/-- a statement's ends -/
def RS (X : Cx) (C : Cs) (ke : List SK) (p : Option Addr) (G : Hp) (D : Ends) (so : SO) (ρ : Env) (F H : Hp) : Prop :=
  match so with
  | .nx => ∀ σ, SR X.K C.io ke p G [] ρ σ F H → D.nx σ H
  | .ret d => ∀ σ v, ROk X.K C.io C.kx p G ρ σ C.rm d F H v → D.rt v H
def SOk (X : Cx) (C : Cs) (ks ke : List SK) (st : Stmt) (g : Env → Out SO) : Prop :=
  ∀ p G ρ σ F H D, SR X.K C.io ks p G [] ρ σ F H → PostG X.K C p G F (g ρ) (RS X C ke p G D) → WS X st D σ H
def SsOk (X : Cx) (C : Cs) (ks ke : List SK) (sts : List Stmt) (g : Env → Out SO) : Prop :=
  ∀ p G ρ σ F H D, SR X.K C.io ks p G [] ρ σ F H → PostG X.K C p G F (g ρ) (RS X C ke p G D) → WSs X sts D σ H
end De
set_option maxHeartbeats 4000000
/-! De2: expressions. -/
namespace De
open PySem PySem.Spec L2
theorem PostG.imp2 {K : PySem.W.Frag} {C : Cs} {p : Option Addr} {G F : Hp} {α : Type} {o : Out α} {R R' : α → Env → Hp → Hp → Prop} (h : PostG K C p G F o R)
    (i : ∀ a ρ F' H', Same F F' → (∀ F'', Same F' F'' → R a ρ F'' H') → R' a ρ F' H') : PostG K C p G F o R' := by
  cases o with
  | ok a ρ => exact fun F' H' s' => i a ρ F' H' s' fun F'' s'' => h F'' H' (s'.trans s'')
  | exc c d ρ => exact h
  | bad => exact h
section
variable {X : Cx} {C : Cs} {ks : List SK} {k : SK} {e a b : Expr} {es : List Expr} {f fa fb : Env → Out D} {pos : Pos}
/-- an own thing as data -/
theorem EOk.fz (nsc : k ≠ .sc) (h : EOk X C ks k e f) : EOk X C ks .im e f := fun p G ρ σ F H Q S q =>
  h p G ρ σ F H Q S (q.imp2 fun d ρ' F' H' s q v r => by
    obtain ⟨F'', s2, r2⟩ := r.fz nsc
    exact q F'' s2 v r2)
/-- one expression, then what follows -/
theorem EOk.then {α : Type} {p : Option Addr} {G : Hp} {ρ : Env} {σ : Sg} {F H : Hp} {g : D → Env → Out α} {R : α → Env → Hp → Hp → Prop} {Q : VK} (h : EOk X C ks .im e f) (S : SR X.K C.io ks p G [] ρ σ F H)
    (q : PostG X.K C p G F ((f ρ).bind g) R) (n : ∀ d ρ1 F1 H1 v, Same F F1 → SR X.K C.io ks p G [] ρ1 σ F1 H1 → Rep X.K F1 v d → PostG X.K C p G F1 (g d ρ1) R → Q v H1) : WE X e σ H Q :=
  h p G ρ σ F H Q S (q.bind.imp fun d ρ1 F1 H1 s q1 v r => n d ρ1 F1 H1 v s r.im.1 r.im.2 q1)
theorem TOk.then {α : Type} {p : Option Addr} {G : Hp} {ρ : Env} {σ : Sg} {F H : Hp} {t : Env → Out Bool} {g : Bool → Env → Out α} {R : α → Env → Hp → Hp → Prop} {Q : Bool → Hp → Prop} (h : TOk X C ks e t) (S : SR X.K C.io ks p G [] ρ σ F H)
    (q : PostG X.K C p G F ((t ρ).bind g) R) (n : ∀ d ρ1 F1 H1, Same F F1 → SR X.K C.io ks p G [] ρ1 σ F1 H1 → PostG X.K C p G F1 (g d ρ1) R → Q d H1) : WT X e σ H Q :=
  h p G ρ σ F H Q S (q.bind.imp fun d ρ1 F1 H1 s q1 r => n d ρ1 F1 H1 s r q1)
theorem AOk.then {α : Type} {p : Option Addr} {G : Hp} {ρ : Env} {σ : Sg} {F H : Hp} {t : Env → Out (List D)} {g : List D → Env → Out α} {R : α → Env → Hp → Hp → Prop} {Q : List V → Hp → Prop} (h : AOk X C ks es t) (S : SR X.K C.io ks p G [] ρ σ F H)
    (q : PostG X.K C p G F ((t ρ).bind g) R) (n : ∀ d ρ1 F1 H1 vs, Same F F1 → SR X.K C.io ks p G [] ρ1 σ F1 H1 → RepA X.K F1 vs d → PostG X.K C p G F1 (g d ρ1) R → Q vs H1) : WA X es σ H Q :=
  h p G ρ σ F H Q S (q.bind.imp fun d ρ1 F1 H1 s q1 vs r ra => n d ρ1 F1 H1 vs s r ra q1)
theorem post_lift {K : PySem.W.Frag} {p : Option Addr} {G F : Hp} {α β : Type} {o : Option α} {ρ : Env} {R : α → Env → Hp → Hp → Prop} (h : PostG K C p G F (lift o ρ) R) : ∃ a, o = some a ∧ ∀ F' H', Same F F' → R a ρ F' H' := by
  cases o with
  | none => exact h.elim
  | some a => exact ⟨a, rfl, h⟩

/-! ### names, constants -/
def xVar (i : Nat) : Env → Out D := fun ρ => lift (ρ[i]?.join) ρ
theorem SR.slot {K : PySem.W.Frag} {io : Bool} {p : Option Addr} {G : Hp} {ex : List Addr} {ρ : Env} {σ : Sg} {F H : Hp} {i : Nat} {d : D} (S : SR K io ks p G ex ρ σ F H) (e : ρ[i]?.join = some d) :
    ∃ v, σ[i]? = some (some v) ∧ ∃ fp, SlotR K F H (ks.getD i .im) (some d) (some v) fp := by
  obtain ⟨fp, h1, _⟩ := S.st
  have h := h1 i
  rw [e] at h
  have hv : ∃ v, σ[i]?.join = some v := by
    cases hk : ks.getD i .im <;> rw [hk] at h
    · obtain ⟨_, v, e, _⟩ := h; exact ⟨v, e⟩
    · obtain ⟨a, _, _, e, _⟩ := h; exact ⟨_, e⟩
    · obtain ⟨a, _, _, e, _⟩ := h; exact ⟨_, e⟩
    · obtain ⟨a, _, _, e, _⟩ := h; exact ⟨_, e⟩
    · obtain ⟨_, a, _, _, e, _⟩ := h; exact ⟨_, e⟩
  obtain ⟨v, hv⟩ := hv
  refine ⟨v, ?_, fp i, by rw [hv] at h; exact h⟩
  cases hs : σ[i]? with
  | none => rw [hs] at hv; cases hv
  | some o => rw [hs] at hv; cases o with
    | none => cases hv
    | some u => cases hv; rfl
theorem SR.slotIm {K : PySem.W.Frag} {io : Bool} {p : Option Addr} {G : Hp} {ex : List Addr} {ρ : Env} {σ : Sg} {F H : Hp} {i : Nat} {d : D} (hk : ks.getD i .im = .im) (S : SR K io ks p G ex ρ σ F H) (e : ρ[i]?.join = some d) :
    ∃ v, σ[i]? = some (some v) ∧ Rep K F v d := by
  obtain ⟨v, e1, fp, h⟩ := S.slot e
  rw [hk] at h
  obtain ⟨_, u, e2, r⟩ := h
  cases e2
  exact ⟨v, e1, r⟩
theorem e_var (i : Nat) {x : Str} {pos : Pos} (hk : ks.getD i .im = .im := by rfl) (hN : X.N[i]? = some x := by rfl) (hv : Vis X.env.scope x := by first | exact Or.inl rfl | exact Or.inr (Or.inl rfl) | exact Or.inr (Or.inr rfl))
    (hd : (x == ("__debug__" : Str)) = false := by decide) (hcd : (x == ("__classdict__" : Str)) = false := by decide) : EOk X C ks .im (.Name x pos) (xVar i) := fun p G ρ σ F H Q S q => by
  obtain ⟨d, e, q⟩ := post_lift (β := Unit) q
  obtain ⟨v, e1, r⟩ := S.slotIm hk e
  exact we_of (pe_var hN hv hd hcd) ⟨v, e1, q F H (Same.refl _) v (.of S r)⟩
def xC (d : D) : Env → Out D := fun ρ => .ok d ρ
theorem e_of_c {v : V} {d : D} (h : PE X e (tC v)) (r : ∀ F, Rep X.K F v d) : EOk X C ks .im e (xC d) := fun p G ρ σ F H Q S q =>
  we_of h (show Q v H from q F H (Same.refl _) v (.of S (r F)))
theorem e_int {i : Int} {j : Nat} : EOk X C ks .im (.Constant (.int i) j pos) (xC (.int i)) := e_of_c pe_int fun _ => .int _
theorem e_str {x : Str} {j : Nat} : EOk X C ks .im (.Constant (.str x) j pos) (xC (.str x)) := e_of_c pe_str fun _ => .str _
theorem e_bl {x : Bool} {j : Nat} : EOk X C ks .im (.Constant (.bool x) j pos) (xC (.bool x)) := e_of_c pe_bl fun _ => .bl _
theorem e_non {j : Nat} : EOk X C ks .im (.Constant .none j pos) (xC .none) := e_of_c pe_non fun _ => .non
/-- a module's name for an int, a text -/
theorem e_gint {x : Str} {i : Int} (hm : ∃ t, X.mg x = some (.int i t)) (hg : Gl X x := by rfl) (hd : (x == ("__debug__" : Str)) = false := by decide) : EOk X C ks .im (.Name x pos) (xC (.int i)) := by
  obtain ⟨t, hm⟩ := hm
  exact e_of_c (v := .int i) (pe_glob hg hm ⟨t, rfl⟩ hd) fun _ => .int _
theorem e_gstr {x z : Str} (hm : ∃ t, X.mg x = some (.str z t)) (hg : Gl X x := by rfl) (hd : (x == ("__debug__" : Str)) = false := by decide) : EOk X C ks .im (.Name x pos) (xC (.str z)) := by
  obtain ⟨t, hm⟩ := hm
  exact e_of_c (v := .str z) (pe_glob hg hm ⟨t, rfl⟩ hd) fun _ => .str _
/-- a module's name for data of the written part -/
def GD (K : PySem.W.Frag) (mg : Str → Option Value) (x : Str) (d : D) : Prop := ∃ a, mg x = some (.ref a) ∧ ∀ F, Rep K F (.ref a) d
theorem e_gd {x : Str} {d : D} (hm : GD X.K X.mg x d) (hg : Gl X x := by rfl) (hd : (x == ("__debug__" : Str)) = false := by decide) : EOk X C ks .im (.Name x pos) (xC d) := by
  obtain ⟨a, hm, h⟩ := hm
  exact e_of_c (v := .ref a) (pe_glob hg hm rfl hd) h

/-! ### operators -/
structure WO (X : Cx) (f : Value → Value → Sem Value) (x y : V) (H : Hp) (Q : VK) : Prop where
  run : ∀ pins s σ v u, Inv X pins σ H s → RelV x v → RelV y u → wpAny (model X.prog X.w) X.A (f v u) (EP X pins σ Q) X.xe s
theorem wo_op {f : Value → Value → Sem Value} : OpR X f (WO X f) := fun pins s σ H x y v u Q I rx ry h => h.run pins s σ v u I rx ry
theorem wo_of {f : Value → Value → Sem Value} {r : R2} {x y : V} {H : Hp} {Q : VK} (h : OpR X f r) (q : r x y H Q) : WO X f x y H Q := ⟨fun pins s σ v u I rx ry => h pins s σ H x y v u Q I rx ry q⟩
/-- an operation on data: its result is data -/
def OpD (X : Cx) (f : Value → Value → Sem Value) (g : D → D → Option D) : Prop := ∀ F H x y dx dy d (Q : VK), Same F H → Rep X.K F x dx → Rep X.K F y dy → g dx dy = some d →
  (∀ F' H' z, Grow F H F' H' → Rep X.K F' z d → Q z H') → WO X f x y H Q
/-- .. its result is a new list -/
def OpL (X : Cx) (f : Value → Value → Sem Value) (g : D → D → Option (List D)) : Prop := ∀ F H x y dx dy ds (Q : VK), Same F H → Rep X.K F x dx → Rep X.K F y dy → g dx dy = some ds →
  (∀ q xs, H q = none → RepA X.K F xs ds → Q (.ref q) (upd H q (.lst xs))) → WO X f x y H Q
def xBin (g : D → D → Option D) (fa fb : Env → Out D) : Env → Out D := fun ρ => (fa ρ).bind fun x ρ1 => (fb ρ1).bind fun y ρ2 => lift (g x y) ρ2
def xBinL (g : D → D → Option (List D)) (fa fb : Env → Out D) : Env → Out D := fun ρ => (fa ρ).bind fun x ρ1 => (fb ρ1).bind fun y ρ2 => lift ((g x y).map PyData.list) ρ2
theorem op_run {fv : Value → Value → Sem Value} {g : D → D → Option D} (ho : OpD X fv g) (ha : EOk X C ks .im a fa) (hb : EOk X C ks .im b fb) {p : Option Addr} {G : Hp} {ρ : Env} {σ : Sg} {F H : Hp} {Q : VK} (S : SR X.K C.io ks p G [] ρ σ F H)
    (q : PostG X.K C p G F (xBin g fa fb ρ) (fun d ρ' F' H' => ∀ v, ROk X.K C.io ks p G ρ' σ .im d F' H' v → Q v H')) : WE X a σ H fun x H1 => WE X b σ H1 fun y H2 => WO X fv x y H2 Q := by
  refine ha.then S q fun x ρ1 F1 H1 v s1 S1 r1 q1 => ?_
  refine hb.then S1 q1 fun y ρ2 F2 H2 u s2 S2 r2 q2 => ?_
  obtain ⟨d, e, q3⟩ := post_lift (β := Unit) q2
  exact ho F2 H2 v u x y d Q S2.same (r1.up s2) r2 e fun F' H' z gr rz => q3 F' H' gr.f z (.of (S2.grow gr) rz)
/-- a new list of nobody's -/
theorem ROk.newL {K : PySem.W.Frag} {io : Bool} {p : Option Addr} {G : Hp} {ρ : Env} {σ : Sg} {F H : Hp} {q : Addr} {xs : List V} {ds : List D} (S : SR K io ks p G [] ρ σ F H) (hq : H q = none) (r : RepA K F xs ds) :
    ROk K io ks p G ρ σ .ml (.list ds) F (upd H q (.lst xs)) (.ref q) := by
  have sn : Same H (upd H q (.lst xs)) := same_new hq
  have fq : F q = none := same_not S.same hq
  have gq : G q = none := same_not S.gs hq
  refine ⟨[q], ?_, ⟨q, xs, ds, rfl, rfl, upd_same, r, rfl⟩, List.nodup_cons.mpr ⟨by simp, List.nodup_nil⟩, fun a ha => ?_⟩
  · obtain ⟨fp, h1, h2, h3, h4⟩ := S.st
    have th : ∀ i, ∀ b ∈ fp i, b ≠ q := fun i b hb z => by
      obtain ⟨o, e⟩ := (h1 i).there b hb
      rw [z, hq] at e; cases e
    refine ⟨S.same.trans sn, S.len, S.pio, S.pin, S.gs.trans sn, S.gd, fp, fun i => (h1 i).up (Same.refl _) fun b hb => upd_ne (th i b hb), h2, h3, fun i a ha => ⟨(h4 i a ha).1, (h4 i a ha).2.1, ?_⟩⟩
    intro z
    rw [List.mem_singleton] at z
    exact th i a ha z
  · rw [List.mem_singleton] at ha
    subst ha
    exact ⟨fq, gq⟩
theorem opL_run {fv : Value → Value → Sem Value} {g : D → D → Option (List D)} (ho : OpL X fv g) (ha : EOk X C ks .im a fa) (hb : EOk X C ks .im b fb) {p : Option Addr} {G : Hp} {ρ : Env} {σ : Sg} {F H : Hp} {Q : VK} (S : SR X.K C.io ks p G [] ρ σ F H)
    (q : PostG X.K C p G F (xBinL g fa fb ρ) (fun d ρ' F' H' => ∀ v, ROk X.K C.io ks p G ρ' σ .ml d F' H' v → Q v H')) : WE X a σ H fun x H1 => WE X b σ H1 fun y H2 => WO X fv x y H2 Q := by
  refine ha.then S q fun x ρ1 F1 H1 v s1 S1 r1 q1 => ?_
  refine hb.then S1 q1 fun y ρ2 F2 H2 u s2 S2 r2 q2 => ?_
  obtain ⟨d, e, q3⟩ := post_lift (β := Unit) q2
  cases hg : g x y with
  | none => rw [hg] at e; cases e
  | some ds =>
    rw [hg] at e
    cases e
    exact ho F2 H2 v u x y ds Q S2.same (r1.up s2) r2 hg fun z xs hz rz => q3 F2 _ (Same.refl _) _ (ROk.newL S2 hz rz)
theorem e_bin {op : Operator} {g : D → D → Option D} (ho : OpD X (binaryOp op) g) (ha : EOk X C ks .im a fa) (hb : EOk X C ks .im b fb) : EOk X C ks .im (.BinOp a op b pos) (xBin g fa fb) := fun p G ρ σ F H Q S q =>
  we_of (pe_op wo_op pe_we pe_we) (op_run ho ha hb S q)
theorem e_binL {op : Operator} {g : D → D → Option (List D)} (ho : OpL X (binaryOp op) g) (ha : EOk X C ks .im a fa) (hb : EOk X C ks .im b fb) : EOk X C ks .ml (.BinOp a op b pos) (xBinL g fa fb) := fun p G ρ σ F H Q S q =>
  we_of (pe_op wo_op pe_we pe_we) (opL_run ho ha hb S q)
theorem e_cmp {op : CmpOp} {g : D → D → Option D} (ho : OpD X (compareOp op) g) (ha : EOk X C ks .im a fa) (hb : EOk X C ks .im b fb) (hm : behindInMarks op b = false := by rfl) : EOk X C ks .im (.Compare a [op] [b] pos) (xBin g fa fb) := fun p G ρ σ F H Q S q =>
  we_of (pe_cmpR wo_op pe_we pe_we hm) (op_run ho ha hb S q)

/-- outcomes without a new object -/
theorem OpD.flat {f : Value → Value → Sem Value} {g : D → D → Option D} (h : ∀ F H x y dx dy d (Q : VK), Same F H → Rep X.K F x dx → Rep X.K F y dy → g dx dy = some d → ∃ z, Rep X.K F z d ∧ (Q z H → WO X f x y H Q)) : OpD X f g :=
  fun F H x y dx dy d Q s rx ry e q => by
    obtain ⟨z, rz, w⟩ := h F H x y dx dy d Q s rx ry e
    exact w (q F H z (Grow.refl s) rz)
def gII (g : Int → Int → Option D) : D → D → Option D
  | .int i, .int j => g i j
  | _, _ => none
theorem OpD.ii {f : Value → Value → Sem Value} {g : Int → Int → Option D} (h : ∀ i j d H (Q : VK), g i j = some d → ∃ z, (∀ F, Rep X.K F z d) ∧ (Q z H → WO X f (.int i) (.int j) H Q)) : OpD X f (gII g) :=
  OpD.flat fun F H x y dx dy d Q s rx ry e => by
    cases rx with
    | int i => cases ry with
      | int j =>
        obtain ⟨z, r, w⟩ := h i j d H Q e
        exact ⟨z, r F, w⟩
      | _ => cases e
    | _ => cases e
def gSub : D → D → Option D := gII fun i j => some (.int (i - j))
def okMul (i j : Int) : Bool := (decide (-(2 ^ 64) < i) && decide (i < 2 ^ 64)) || (decide (-(2 ^ 64) < j) && decide (j < 2 ^ 64))
def gMul : D → D → Option D := gII fun i j => if okMul i j then some (.int (i * j)) else none
def gDiv : D → D → Option D := gII fun i j => if decide (0 < j) && decide (j < 1073741824) then some (.int (i / j)) else none
def gMod : D → D → Option D := gII fun i j => if decide (0 < j) then some (.int (i % j)) else none
def gPow : D → D → Option D := gII fun i j => if decide (0 ≤ j) && decide (j ≤ 1000) && decide (i.natAbs < 2 ^ 64) then some (.int (i ^ j.toNat)) else none
theorem o_sub : OpD X (binaryOp .Sub) gSub := .ii fun i j d H Q e => by
  cases e
  exact ⟨.int (i - j), fun _ => .int _, fun q => wo_of op_sub ⟨i, j, rfl, rfl, q⟩⟩
theorem o_mul : OpD X (binaryOp .Mult) gMul := .ii fun i j d H Q e => by
  split at e
  · rename_i h
    cases e
    refine ⟨.int (i * j), fun _ => .int _, fun q => wo_of op_mul ⟨i, j, rfl, rfl, ?_, q⟩⟩
    simp only [okMul, Bool.or_eq_true, Bool.and_eq_true, decide_eq_true_eq] at h
    exact h
  · cases e
theorem o_div : OpD X (binaryOp .FloorDiv) gDiv := .ii fun i j d H Q e => by
  split at e
  · rename_i h
    cases e
    simp only [Bool.and_eq_true, decide_eq_true_eq] at h
    exact ⟨.int (i / j), fun _ => .int _, fun q => wo_of op_fdiv ⟨i, j, rfl, rfl, h, q⟩⟩
  · cases e
theorem o_mod : OpD X (binaryOp .Mod) gMod := .ii fun i j d H Q e => by
  split at e
  · rename_i h
    cases e
    simp only [decide_eq_true_eq] at h
    exact ⟨.int (i % j), fun _ => .int _, fun q => wo_of op_mod ⟨i, j, rfl, rfl, h, q⟩⟩
  · cases e
theorem o_pow : OpD X (binaryOp .Pow) gPow := .ii fun i j d H Q e => by
  split at e
  · rename_i h
    cases e
    simp only [Bool.and_eq_true, decide_eq_true_eq] at h
    exact ⟨.int (i ^ j.toNat), fun _ => .int _, fun q => wo_of op_pow ⟨i, j, rfl, rfl, ⟨h.1.1, by omega, h.2⟩, q⟩⟩
  · cases e
def gLt : D → D → Option D := gII fun i j => some (.bool (decide (i < j)))
def gLe : D → D → Option D := gII fun i j => some (.bool (decide (i ≤ j)))
def gGt : D → D → Option D := gII fun i j => some (.bool (decide (j < i)))
def gGe : D → D → Option D := gII fun i j => some (.bool (decide (j ≤ i)))
theorem o_lt : OpD X (compareOp .Lt) gLt := .ii fun i j d H Q e => by
  cases e; exact ⟨.bl _, fun _ => .bl _, fun q => wo_of op_lt ⟨i, j, rfl, rfl, q⟩⟩
theorem o_le : OpD X (compareOp .LtE) gLe := .ii fun i j d H Q e => by
  cases e; exact ⟨.bl _, fun _ => .bl _, fun q => wo_of op_le ⟨i, j, rfl, rfl, q⟩⟩
theorem o_gt : OpD X (compareOp .Gt) gGt := .ii fun i j d H Q e => by
  cases e; exact ⟨.bl _, fun _ => .bl _, fun q => wo_of op_gt ⟨i, j, rfl, rfl, q⟩⟩
theorem o_ge : OpD X (compareOp .GtE) gGe := .ii fun i j d H Q e => by
  cases e; exact ⟨.bl _, fun _ => .bl _, fun q => wo_of op_ge ⟨i, j, rfl, rfl, q⟩⟩
end
end De
set_option maxHeartbeats 4000000
/-! De3: more operators, subscripts, slices. -/
namespace De
open PySem PySem.Spec L2
/-! ### data to the library's own relation -/
section
variable {K : PySem.W.Frag} {F H : Hp}
mutual
theorem Rep.dp (s : Same F H) : ∀ (d : D) (v : V), d.canLay0 = true → Rep K F v d → Dp K H v d
  | .none, _, _, h => by cases h; exact .non
  | .bool b, _, _, h => by cases h; exact .bl b
  | .int i, _, _, h => by cases h; exact .int i
  | .str x, _, _, h => by cases h; exact .str x
  | .list ds, _, c, h => by
    cases h with
    | lst h1 h2 => exact .lst (.inl (.inl (s _ _ h1))) (RepA.dp s ds _ (by simpa [PyData.canLay0] using c) h2)
  | .tuple ds, _, c, h => by
    cases h with
    | tup h1 h2 => exact .tup (Same.sqT s h1) (RepA.dp s ds _ (by simpa [PyData.canLay0] using c) h2)
  | .dict ds, _, c, h => by simp [PyData.canLay0] at c
theorem RepA.dp (s : Same F H) : ∀ (ds : List D) (vs : List V), PyData.canLayAll0 ds = true → RepA K F vs ds → DpAll K H vs ds
  | [], _, _, h => by cases h; exact .nil
  | d :: ds, _, c, h => by
    cases h with
    | cons h1 h2 =>
      simp only [PyData.canLayAll0, Bool.and_eq_true] at c
      exact .cons (Rep.dp s d _ c.1 h1) (RepA.dp s ds _ c.2 h2)
end
end
def toV : D → V
  | .bool b => .bl b
  | .int i => .int i
  | .str x => .str x
  | _ => .non
def flatD : D → Bool
  | .none => true
  | .bool _ => true
  | .int _ => true
  | .str _ => true
  | _ => false
section
variable {K : PySem.W.Frag} {F H : Hp}
theorem Rep.toV {v : V} {d : D} (h : Rep K F v d) (f : flatD d = true) : v = toV d ∧ flatV v = true := by
  cases h <;> first | exact ⟨rfl, rfl⟩ | cases f
theorem RepA.toV : ∀ {vs : List V} {ds : List D}, RepA K F vs ds → ds.all flatD = true → vs = ds.map De.toV ∧ vs.all flatV = true
  | _, [], h, _ => by cases h; exact ⟨rfl, rfl⟩
  | _, d :: ds, h, f => by
    cases h with
    | cons h1 h2 =>
      simp only [List.all_cons, Bool.and_eq_true] at f
      obtain ⟨e1, g1⟩ := h1.toV f.1
      obtain ⟨e2, g2⟩ := RepA.toV h2 f.2
      exact ⟨by rw [e1, e2]; rfl, by simp [g1, g2]⟩
end
section
variable {X : Cx} {C : Cs} {ks : List SK} {k : SK} {e a b : Expr} {es : List Expr} {f fa fb : Env → Out D} {pos : Pos}
/-! ### + and * -/
def gAdd : D → D → Option D
  | .int i, .int j => some (.int (i + j))
  | .str x, .str y => if x.length + y.length ≤ sizeLine then some (.str (x ++ y)) else none
  | .list xs, .list ys => if xs.length + ys.length ≤ sizeLine then some (.list (xs ++ ys)) else none
  | .tuple xs, .tuple ys => if xs.length + ys.length ≤ sizeLine then some (.tuple (xs ++ ys)) else none
  | _, _ => none
theorem grow_tup {F H : Hp} {q : Addr} {xs : List V} {ds : List D} {Q : VK} (s : Same F H) (hq : H q = none) (r : RepA X.K F xs ds) (w : ∀ F' H' z, Grow F H F' H' → Rep X.K F' z (.tuple ds) → Q z H') : Q (.ref q) (upd H q (.tup xs)) :=
  w _ _ _ (Grow.alloc s hq) (.tup (.inl (.inl upd_same)) (r.up (same_new (same_not s hq))))
theorem grow_lst {F H : Hp} {q : Addr} {xs : List V} {ds : List D} {Q : VK} (s : Same F H) (hq : H q = none) (r : RepA X.K F xs ds) (w : ∀ F' H' z, Grow F H F' H' → Rep X.K F' z (.list ds) → Q z H') : Q (.ref q) (upd H q (.lst xs)) :=
  w _ _ _ (Grow.alloc s hq) (.lst upd_same (r.up (same_new (same_not s hq))))
theorem o_add : OpD X (binaryOp .Add) gAdd := fun F H x y dx dy d Q s rx ry e w => by
  cases rx with
  | int i => cases ry with
    | int j => cases e; exact wo_of op_add ⟨i, j, rfl, rfl, w F H _ (Grow.refl s) (.int _)⟩
    | _ => cases e
  | str x => cases ry with
    | str y =>
      simp only [gAdd] at e
      split at e
      · rename_i h
        cases e
        exact wo_of op_add_str ⟨x, y, rfl, rfl, h, w F H _ (Grow.refl s) (.str _)⟩
      · cases e
    | _ => cases e
  | lst h1 r1 => cases ry with
    | lst h2 r2 =>
      simp only [gAdd] at e
      split at e
      · rename_i h
        cases e
        exact wo_of op_cat ⟨_, _, _, _, rfl, rfl, s _ _ h1, s _ _ h2, by rw [r1.length, r2.length]; exact h, fun p hp => grow_lst s hp (r1.append r2) w⟩
      · cases e
    | _ => cases e
  | tup h1 r1 => cases ry with
    | tup h2 r2 =>
      rename_i xs ds b ys es
      simp only [gAdd] at e
      split at e
      · rename_i h
        cases e
        refine wo_of op_catA ⟨_, _, _, _, rfl, rfl, Same.sqT s h1, Same.sqT s h2, by rw [r1.length, r2.length]; exact h, fun e1 => ?_, fun _ e1 => ?_, fun _ _ p hp => grow_tup s hp (r1.append r2) w⟩
        · subst e1
          have e2 : ds = [] := List.eq_nil_of_length_eq_zero (by rw [← r1.length]; rfl)
          subst e2
          exact w F H _ (Grow.refl s) (.tup h2 r2)
        · subst e1
          have e2 : es = [] := List.eq_nil_of_length_eq_zero (by rw [← r2.length]; rfl)
          subst e2
          rw [List.append_nil] at w
          exact w F H _ (Grow.refl s) (.tup h1 r1)
      · cases e
    | _ => cases e
  | _ => cases e
def gCat : D → D → Option (List D)
  | .list xs, .list ys => if xs.length + ys.length ≤ sizeLine then some (xs ++ ys) else none
  | _, _ => none
theorem o_cat : OpL X (binaryOp .Add) gCat := fun F H x y dx dy d Q s rx ry e w => by
  cases rx with
  | lst h1 r1 => cases ry with
    | lst h2 r2 =>
      simp only [gCat] at e
      split at e
      · rename_i h
        cases e
        exact wo_of op_cat ⟨_, _, _, _, rfl, rfl, s _ _ h1, s _ _ h2, by rw [r1.length, r2.length]; exact h, fun p hp => w p _ hp (r1.append r2)⟩
      · cases e
    | _ => cases e
  | _ => cases e
def gRep : D → D → Option (List D)
  | .list xs, .int n => if decide (-(2 ^ 63) ≤ n) && decide (n < 2 ^ 63) && decide (xs.length * n.toNat ≤ sizeLine) then some (List.replicate n.toNat xs).flatten else none
  | _, _ => none
theorem RepA.rep {K : PySem.W.Frag} {F : Hp} {vs : List V} {ds : List D} (r : RepA K F vs ds) : ∀ n : Nat, RepA K F (List.replicate n vs).flatten (List.replicate n ds).flatten
  | 0 => .nil
  | n + 1 => by
    rw [List.replicate_succ, List.replicate_succ, List.flatten_cons, List.flatten_cons]
    exact r.append (RepA.rep r n)
theorem o_rep : OpL X (binaryOp .Mult) gRep := fun F H x y dx dy d Q s rx ry e w => by
  cases rx with
  | lst h1 r1 => cases ry with
    | int n =>
      simp only [gRep] at e
      split at e
      · rename_i h
        cases e
        simp only [Bool.and_eq_true, decide_eq_true_eq] at h
        exact wo_of op_rep ⟨_, n, _, rfl, rfl, s _ _ h1, h.1.1, h.1.2, by rw [r1.length]; exact h.2, fun p hp => w p _ hp (r1.rep _)⟩
      · cases e
    | _ => cases e
  | _ => cases e
/-- a text, n times -/
def strRep (x : Str) (n : Nat) : Str := ⟨(List.replicate n x.cps).foldl (· ++ ·) #[]⟩
def gStrRep : D → D → Option D
  | .str x, .int n => if decide (0 ≤ n) && decide (n < 2 ^ 40) && decide (x.length * n.toNat ≤ sizeLine) && decide (x.length ≤ sizeLine) then some (.str (strRep x n.toNat)) else none
  | _, _ => none
theorem foldl_cat_len : ∀ (n : Nat) (x : Array Nat) (acc : Array Nat), ((List.replicate n x).foldl (· ++ ·) acc).size = acc.size + n * x.size
  | 0, x, acc => by simp
  | n + 1, x, acc => by
    rw [List.replicate_succ, List.foldl_cons, foldl_cat_len n x, Array.size_append, Nat.succ_mul]
    omega
theorem strRep_len (x : Str) (n : Nat) : (strRep x n).length = n * x.length := by
  unfold strRep Str.length
  rw [foldl_cat_len]
  simp
theorem o_strRep : OpD X (binaryOp .Mult) gStrRep := .flat fun F H x y dx dy d Q s rx ry e => by
  cases rx with
  | str x => cases ry with
    | int n =>
      simp only [gStrRep] at e
      split at e
      · rename_i h
        cases e
        simp only [Bool.and_eq_true, decide_eq_true_eq] at h
        obtain ⟨⟨⟨h1, h2⟩, h3⟩, h4⟩ := h
        refine ⟨.str (strRep x n.toNat), .str _, fun q => ?_⟩
        refine ⟨?_⟩
        intro pins st σ v u I rx ry
        obtain ⟨t, rfl⟩ := rx
        obtain ⟨t', rfl⟩ := ry
        have hn : (decide (n < -(2 ^ 63 : Int)) || decide (n ≥ 2 ^ 63)) = false := by
          rw [decide_eq_false (by omega), decide_eq_false (by omega)]; rfl
        refine PySem.P.mul_str hn (fun h5 _ h6 => ?_) (fun h5 _ => ?_) ?_
        · have h7 : (2 : Int) ^ 63 - 1 ≥ (x.length : Int) * n := by
            have : ((x.length * n.toNat : Nat) : Int) ≤ (sizeLine : Int) := by exact_mod_cast h3
            rw [Int.natCast_mul, Int.toNat_of_nonneg h1] at this
            have h8 : (sizeLine : Int) ≤ 2 ^ 63 - 1 := by decide
            omega
          have h9 : (x.length : Int) ≤ (2 ^ 63 - 1) / n := (Int.le_ediv_iff_mul_le (by omega)).mpr h7
          omega
        · unfold Builtin.Str.tooLong
          simp only [decide_eq_false_iff_not, Nat.not_lt, gt_iff_lt]
          exact h3
        · by_cases h5 : n < 1
          · have h6 : n = 0 := by omega
            subst h6
            rw [if_pos (by decide)]
            refine ⟨by decide, ⟨.str _, H, I.tok _, ⟨_, rfl⟩, q⟩⟩
          · rw [if_neg h5]
            split
            · rename_i h6
              have e1 : strRep x n.toNat = x := by
                rcases Bool.or_eq_true_iff.mp h6 with h6 | h6
                · have h7 : n = 1 := by simpa using h6
                  subst h7
                  simp [strRep]
                · have h7 : x.length = 0 := by simpa using h6
                  have h8 : x = Str.empty := by
                    cases x with
                    | mk c =>
                      have : c = #[] := Array.eq_empty_of_size_eq_zero h7
                      rw [this]; rfl
                  have h9 : (strRep x n.toNat).length = 0 := by rw [strRep_len, h7]; simp
                  have h10 : strRep x n.toNat = Str.empty := by
                    generalize strRep x n.toNat = y at h9
                    cases y with
                    | mk c =>
                      have : c = #[] := Array.eq_empty_of_size_eq_zero h9
                      rw [this]; rfl
                  rw [h10, h8]
              rw [e1] at q
              exact ⟨.str _, H, I, ⟨_, rfl⟩, q⟩
            · refine ⟨?_, ⟨.str _, H, I.tok _, ⟨_, rfl⟩, q⟩⟩
              show (strRep x n.toNat).length ≤ sizeLine
              rw [strRep_len, Nat.mul_comm]
              exact h3
      · cases e
    | _ => cases e
  | _ => cases e

/-- an operation with a flat answer, the objects as they were -/
def OpF (X : Cx) (f : Value → Value → Sem Value) (g : D → D → Option D) : Prop := ∀ F H x y dx dy d (Q : VK), Same F H → Rep X.K F x dx → Rep X.K F y dy → g dx dy = some d → ∃ z, Rep X.K F z d ∧ (Q z H → WO X f x y H Q)
/-! ### comparisons of data -/
def gEq : D → D → Option D := fun x y => if SeqAt.shaped x && SeqAt.shaped y then some (.bool (PyData.eqv x y)) else none
def gNe : D → D → Option D := fun x y => if SeqAt.shaped x && SeqAt.shaped y then some (.bool (!PyData.eqv x y)) else none
theorem shaped_lay {d : D} (h : SeqAt.shaped d = true) : d.canLay0 = true := by
  unfold SeqAt.shaped at h
  simp only [Bool.and_eq_true] at h
  exact h.1
theorem f_eq (hu : X.A.units + 64 < cLine) : OpF X (compareOp .Eq) gEq := fun F H x y dx dy d Q s rx ry e => by
  simp only [gEq] at e
  split at e
  · rename_i h
    cases e
    simp only [Bool.and_eq_true] at h
    exact ⟨.bl _, .bl _, fun q => wo_of (op_eqD hu) ⟨dx, dy, rx.dp s _ _ (shaped_lay h.1), ry.dp s _ _ (shaped_lay h.2), h.1, h.2, q⟩⟩
  · cases e
theorem f_ne (hu : X.A.units + 64 < cLine) : OpF X (compareOp .NotEq) gNe := fun F H x y dx dy d Q s rx ry e => by
  simp only [gNe] at e
  split at e
  · rename_i h
    cases e
    simp only [Bool.and_eq_true] at h
    exact ⟨.bl _, .bl _, fun q => wo_of (op_neD hu) ⟨dx, dy, rx.dp s _ _ (shaped_lay h.1), ry.dp s _ _ (shaped_lay h.2), h.1, h.2, q⟩⟩
  · cases e
def hasIn : D → D → Option Bool
  | .str x, .str z => match x.cps.toList with
    | [c] => some (decide (c ∈ z.cps.toList))
    | _ => some (!(Builtin.Str.occurrences z x 0 z.length 1).isEmpty)
  | x, .list ds => if flatD x && ds.all flatD then some (inV (toV x) (ds.map toV)) else none
  | x, .tuple ds => if flatD x && ds.all flatD then some (inV (toV x) (ds.map toV)) else none
  | _, _ => none
def gIn : D → D → Option D := fun x y => (hasIn x y).map .bool
def gNotIn : D → D → Option D := fun x y => (hasIn x y).map fun b => .bool (!b)
theorem str_one {x : Str} {c : Nat} (h : x.cps.toList = [c]) : x = ⟨#[c]⟩ := by
  cases x with
  | mk a =>
    have : a = #[c] := by
      rw [← Array.toArray_toList (xs := a)]
      show a.toList.toArray = _
      rw [show a.toList = [c] from h]
    rw [this]
theorem in_run {F H : Hp} {x y : V} {dx dy : D} {r : Bool} {neg : Bool} {op : CmpOp} (s : Same F H) (rx : Rep X.K F x dx) (ry : Rep X.K F y dy) (e : hasIn dx dy = some r) {Q : VK} (q : Q (.bl (if neg then !r else r)) H)
    (h1 : OpR X (compareOp op) fun x y H Q => ∃ c z, x = V.str ⟨#[c]⟩ ∧ y = V.str z ∧ Q (V.bl (if neg then !decide (c ∈ z.cps.toList) else decide (c ∈ z.cps.toList))) H)
    (h2 : OpR X (compareOp op) fun x y H Q => ∃ i j, x = V.str i ∧ y = V.str j ∧ Q (V.bl (if neg then !(!(Builtin.Str.occurrences j i 0 j.length 1).isEmpty) else !(Builtin.Str.occurrences j i 0 j.length 1).isEmpty)) H)
    (h3 : OpR X (compareOp op) (rIn X.K neg)) : WO X (compareOp op) x y H Q := by
  have seq : ∀ {p : Addr} {xs : List V} {ds : List D}, (SqL X.K H p xs ∨ SqT X.K H p xs) → RepA X.K F xs ds → (if flatD dx && ds.all flatD then some (inV (toV dx) (ds.map toV)) else none) = some r → y = .ref p → WO X (compareOp op) x y H Q := by
    intro p xs ds hs hr he ey
    split at he
    · rename_i hf
      cases he
      simp only [Bool.and_eq_true] at hf
      obtain ⟨e1, g1⟩ := rx.toV hf.1
      obtain ⟨e2, g2⟩ := hr.toV hf.2
      refine wo_of h3 ⟨p, xs, ey, hs, g1, g2, ?_⟩
      rw [e1, e2]
      exact q
    · cases he
  cases ry with
  | str z =>
    cases rx with
    | str x =>
      simp only [hasIn] at e
      split at e
      · rename_i c hc
        cases e
        rw [str_one hc]
        exact wo_of h1 ⟨c, z, rfl, rfl, q⟩
      · cases e
        exact wo_of h2 ⟨x, z, rfl, rfl, q⟩
    | _ => cases e
  | lst h1 r1 => exact seq (.inl (.inl (.inl (s _ _ h1)))) r1 (by cases rx <;> exact e) rfl
  | tup h1 r1 => exact seq (.inr (Same.sqT s h1)) r1 (by cases rx <;> exact e) rfl
  | _ => cases rx <;> cases e
theorem f_in : OpF X (compareOp .In) gIn := fun F H x y dx dy d Q s rx ry e => by
  unfold gIn at e
  cases h : hasIn dx dy with
  | none => rw [h] at e; cases e
  | some r =>
    rw [h] at e
    cases e
    exact ⟨.bl r, .bl _, fun q => in_run (neg := false) s rx ry h q op_in_sign op_in_str op_in_seq⟩
theorem f_notIn : OpF X (compareOp .NotIn) gNotIn := fun F H x y dx dy d Q s rx ry e => by
  unfold gNotIn at e
  cases h : hasIn dx dy with
  | none => rw [h] at e; cases e
  | some r =>
    rw [h] at e
    cases e
    exact ⟨.bl (!r), .bl _, fun q => in_run (neg := true) s rx ry h q op_notIn_sign op_notin_str op_notIn_seq⟩
theorem o_eq (hu : X.A.units + 64 < cLine) : OpD X (compareOp .Eq) gEq := .flat (f_eq hu)
theorem o_ne (hu : X.A.units + 64 < cLine) : OpD X (compareOp .NotEq) gNe := .flat (f_ne hu)
theorem o_in : OpD X (compareOp .In) gIn := .flat f_in
theorem o_notIn : OpD X (compareOp .NotIn) gNotIn := .flat f_notIn
def gIsB : D → D → Option D
  | .bool a, .bool b => some (.bool (decide (a = b)))
  | _, _ => none
def gIsNotB : D → D → Option D
  | .bool a, .bool b => some (.bool (!decide (a = b)))
  | _, _ => none
theorem o_isB : OpD X (compareOp .Is) gIsB := .flat fun F H x y dx dy d Q s rx ry e => by
  cases rx with
  | bl a => cases ry with
    | bl b => cases e; exact ⟨.bl _, .bl _, fun q => wo_of op_isBl ⟨a, b, rfl, rfl, q⟩⟩
    | _ => cases e
  | _ => cases e
theorem o_isNotB : OpD X (compareOp .IsNot) gIsNotB := .flat fun F H x y dx dy d Q s rx ry e => by
  cases rx with
  | bl a => cases ry with
    | bl b => cases e; exact ⟨.bl _, .bl _, fun q => wo_of op_notBl ⟨a, b, rfl, rfl, q⟩⟩
    | _ => cases e
  | _ => cases e
def isN : D → Bool
  | .none => true
  | _ => false
def gIsN : D → D → Option D := fun x y => if isN y then some (.bool (isN x)) else none
def gIsNotN : D → D → Option D := fun x y => if isN y then some (.bool (!isN x)) else none
theorem Rep.isN {K : PySem.W.Frag} {F : Hp} {v : V} {d : D} (r : Rep K F v d) : decide (v = .non) = isN d := by
  cases r <;> simp [De.isN]
theorem o_isN : OpD X (compareOp .Is) gIsN := .flat fun F H x y dx dy d Q s rx ry e => by
  simp only [gIsN] at e
  split at e
  · rename_i h
    cases e
    have hy : y = .non := of_decide_eq_true ((ry.isN).trans h)
    exact ⟨.bl _, .bl _, fun q => wo_of op_isN ⟨hy, by rw [rx.isN]; exact q⟩⟩
  · cases e
theorem o_isNotN : OpD X (compareOp .IsNot) gIsNotN := .flat fun F H x y dx dy d Q s rx ry e => by
  simp only [gIsNotN] at e
  split at e
  · rename_i h
    cases e
    have hy : y = .non := of_decide_eq_true ((ry.isN).trans h)
    exact ⟨.bl _, .bl _, fun q => wo_of op_notN ⟨hy, by rw [rx.isN]; exact q⟩⟩
  · cases e
end
end De
set_option maxHeartbeats 4000000
/-! De4: subscripts, slices, built-in calls, displays, and | or | not, tests. -/
namespace De
open PySem PySem.Spec L2
section
variable {X : Cx} {C : Cs} {ks : List SK} {k : SK} {e a b c : Expr} {es rest : List Expr} {f fa fb : Env → Out D} {pos : Pos}
/-! ### subscripts -/
structure WIx (X : Cx) (x y : V) (H : Hp) (Q : VK) : Prop where
  run : ∀ (value slice : Expr) pins s σ v u, Inv X pins σ H s → RelV x v → RelV y u → subscripted slice false v u = operate [v, u] (getItem v u) → wpAny (model X.prog X.w) X.A (PyProof.Rows.subscriptTail value slice v u) (EP X pins σ Q) X.xe s
theorem wix_ix : IxR X (WIx X) := fun value slice pins s σ H x y v u Q I rx ry h hs => h.run value slice pins s σ v u I rx ry hs
theorem wix_of {r : R2} {x y : V} {H : Hp} {Q : VK} (h : IxR X r) (q : r x y H Q) : WIx X x y H Q := ⟨fun value slice pins s σ v u I rx ry hs => h value slice pins s σ H x y v u Q I rx ry q hs⟩
def gIx : D → D → Option D
  | .list ds, .int i => atI ds i
  | .tuple ds, .int i => atI ds i
  | .str z, .int i => if z.length ≤ sizeLine then (atI z.cps.toList i).map fun c => .str ⟨#[c]⟩ else none
  | _, _ => none
theorem RepA.atI {K : PySem.W.Frag} {F : Hp} {vs : List V} {ds : List D} {i : Int} {d : D} (r : RepA K F vs ds) (h : L2.atI ds i = some d) : ∃ v, L2.atI vs i = some v ∧ Rep K F v d := by
  unfold L2.atI at *
  rw [r.length]
  cases e : ixN ds.length i with
  | none => rw [e] at h; cases h
  | some j =>
    rw [e] at h
    exact r.get h
theorem ix_run {F H : Hp} {x y : V} {dx dy d : D} {Q : VK} (s : Same F H) (rx : Rep X.K F x dx) (ry : Rep X.K F y dy) (h : gIx dx dy = some d) (q : ∀ z, Rep X.K F z d → Q z H) : WIx X x y H Q := by
  cases ry with
  | int i =>
    cases rx with
    | lst h1 r1 =>
      obtain ⟨v, e, r⟩ := r1.atI h
      exact wix_of ix_list ⟨_, _, i, v, rfl, rfl, .inl (.inl (s _ _ h1)), e, q v r⟩
    | tup h1 r1 =>
      obtain ⟨v, e, r⟩ := r1.atI h
      exact wix_of ix_tup ⟨_, _, i, v, rfl, rfl, Same.sqT s h1, e, q v r⟩
    | str z =>
      simp only [gIx] at h
      split at h
      · rename_i hz
        cases e : L2.atI z.cps.toList i with
        | none => rw [e] at h; cases h
        | some c =>
          rw [e] at h
          cases h
          exact wix_of ix_str ⟨z, i, c, rfl, rfl, hz, e, q _ (.str _)⟩
      · cases h
    | _ => cases h
  | _ => cases rx <;> cases h
theorem e_ix (ha : EOk X C ks .im a fa) (hb : EOk X C ks .im b fb) (hs : PlainIx b := by intro _ _; rfl) : EOk X C ks .im (.Subscript a b pos) (xBin gIx fa fb) := fun p G ρ σ F H Q S q => by
  refine we_of (pe_ix wix_ix pe_we pe_we hs) ?_
  refine ha.then S q fun x ρ1 F1 H1 v s1 S1 r1 q1 => ?_
  refine hb.then S1 q1 fun y ρ2 F2 H2 u s2 S2 r2 q2 => ?_
  obtain ⟨d, e, q3⟩ := post_lift (β := Unit) q2
  exact ix_run S2.same (r1.up s2) r2 e fun z rz => q3 F2 H2 (Same.refl _) z (.of S2 rz)
/-! ### slices -/
structure WSl (X : Cx) (x : V) (lo hi : Option Int) (H : Hp) (Q : VK) : Prop where
  run : ∀ pins s σ v vl vu sl, Inv X pins σ H s → RelV x v → s.heap.IsSliceOf sl vl vu .none → IsPart vl lo → IsPart vu hi →
  ∃ T id, typeLookup (.type T) "__getitem__" = pure (some (.builtin id)) ∧ s.TypeIs v T ∧ wpAny (model X.prog X.w) X.A (getItem v (.ref sl)) (EP X pins σ Q) X.xe s
theorem wsl_sl : SlR X (WSl X) := fun pins s σ H x v vl vu lo hi sl Q I rx hs pl pu h => h.run pins s σ v vl vu sl I rx hs pl pu
theorem wsl_of {r : V → Option Int → Option Int → Hp → VK → Prop} {x : V} {lo hi : Option Int} {H : Hp} {Q : VK} (h : SlR X r) (q : r x lo hi H Q) : WSl X x lo hi H Q := ⟨fun pins s σ v vl vu sl I rx hs pl pu => h pins s σ H x v vl vu lo hi sl Q I rx hs pl pu q⟩
structure WPO (X : Cx) (e : Option Expr) (σ : Sg) (H : Hp) (Q : Option Int → Hp → Prop) : Prop where
  run : ∀ pins s, Inv X pins σ H s → wpAny (model X.prog X.w) X.A (evalPart e X.env) (fun u s' => ∃ o H', Inv X pins σ H' s' ∧ IsPart u o ∧ Q o H') X.xe s
theorem po_wpo {e : Option Expr} : PO X e (WPO X e) := ⟨fun pins s σ H Q I h => h.run pins s I⟩
def OOk (X : Cx) (C : Cs) (ks : List SK) (e : Option Expr) (f : Env → Out (Option Int)) : Prop :=
  ∀ p G ρ σ F H Q, SR X.K C.io ks p G [] ρ σ F H → PostG X.K C p G F (f ρ) (fun o ρ' F' H' => SR X.K C.io ks p G [] ρ' σ F' H' → Q o H') → WPO X e σ H Q
def xNoP : Env → Out (Option Int) := fun ρ => .ok none ρ
def xPart (f : Env → Out D) : Env → Out (Option Int) := fun ρ => (f ρ).bind fun d ρ1 => match d with
  | .int i => .ok (some i) ρ1
  | _ => .bad
theorem o_none : OOk X C ks none xNoP := fun p G ρ σ F H Q S q => ⟨fun pins s I => po_none.run pins s σ H Q I (q F H (Same.refl _) S)⟩
theorem o_some (h : EOk X C ks .im e f) : OOk X C ks (some e) (xPart f) := fun p G ρ σ F H Q S q => by
  refine ⟨fun pins s I => (po_some pe_we).run pins s σ H Q I ?_⟩
  refine h.then S q fun d ρ1 F1 H1 v s1 S1 r1 q1 => ?_
  cases r1 with
  | int i => exact ⟨i, rfl, q1 F1 H1 (Same.refl _) S1⟩
  | _ => exact q1.elim
def cutL {α : Type} (xs : List α) (lo hi : Option Int) : List α := (xs.drop (HT.sIx xs.length 0 lo)).take (HT.sIx xs.length xs.length hi - HT.sIx xs.length 0 lo)
theorem RepA.cut {K : PySem.W.Frag} {F : Hp} {vs : List V} {ds : List D} (r : RepA K F vs ds) (lo hi : Option Int) : RepA K F (cutV vs lo hi) (cutL ds lo hi) := by
  unfold cutV cutL
  rw [r.length]
  exact (r.drop _).take _
def gSl : D → Option Int → Option Int → Option D
  | .str z, lo, hi => if z.length ≤ sizeLine then some (.str (cutS z lo hi)) else none
  | .list ds, lo, hi => some (.list (cutL ds lo hi))
  | .tuple ds, lo, hi => some (.tuple (cutL ds lo hi))
  | _, _, _ => none
theorem sl_run {F H : Hp} {x : V} {dx d : D} {lo hi : Option Int} {Q : VK} (s : Same F H) (rx : Rep X.K F x dx) (h : gSl dx lo hi = some d) (w : ∀ F' H' z, Grow F H F' H' → Rep X.K F' z d → Q z H') : WSl X x lo hi H Q := by
  cases rx with
  | str z =>
    simp only [gSl] at h
    split at h
    · rename_i hz
      cases h
      exact wsl_of sl_str ⟨z, rfl, hz, w F H _ (Grow.refl s) (.str _)⟩
    · cases h
  | lst h1 r1 =>
    cases h
    exact wsl_of sl_list ⟨_, _, rfl, .inl (.inl (s _ _ h1)), fun p hp => grow_lst s hp (r1.cut lo hi) w⟩
  | tup h1 r1 =>
    rename_i aa xs ds
    cases h
    refine wsl_of sl_tupA ⟨_, _, rfl, Same.sqT s h1, fun ⟨e1, e2⟩ => ?_, fun _ p hp => grow_tup s hp (r1.cut lo hi) w⟩
    have e3 : cutL ds lo hi = ds := by
      unfold cutL
      rw [r1.length] at e1 e2
      rw [e1, e2, List.drop_zero, Nat.sub_zero, List.take_length]
    rw [e3] at w
    exact w F H _ (Grow.refl s) (.tup h1 r1)
  | _ => cases h
def xSl (f : Env → Out D) (fl fh : Env → Out (Option Int)) : Env → Out D := fun ρ => (f ρ).bind fun d ρ1 => (fl ρ1).bind fun lo ρ2 => (fh ρ2).bind fun hi ρ3 => lift (gSl d lo hi) ρ3
theorem e_sl {lo hi : Option Expr} {fl fh : Env → Out (Option Int)} {p2 : Pos} (h : EOk X C ks .im e f) (hl : OOk X C ks lo fl) (hh : OOk X C ks hi fh) : EOk X C ks .im (.Subscript e (.Slice lo hi none p2) pos) (xSl f fl fh) := fun p G ρ σ F H Q S q => by
  refine we_of (pe_slice wsl_sl pe_we po_wpo po_wpo) ?_
  refine h.then S q fun d ρ1 F1 H1 v s1 S1 r1 q1 => ?_
  refine hl p G ρ1 σ F1 H1 _ S1 (q1.bind.imp fun l ρ2 F2 H2 s2 q2 S2 => ?_)
  refine hh p G ρ2 σ F2 H2 _ S2 (q2.bind.imp fun u ρ3 F3 H3 s3 q3 S3 => ?_)
  obtain ⟨z, e, q4⟩ := post_lift (β := Unit) q3
  exact sl_run S3.same (r1.up (s2.trans s3)) e fun F' H' z gr rz => q4 F' H' gr.f z (.of (S3.grow gr) rz)
/-! ### argument lists, displays -/
def xNil : Env → Out (List D) := fun ρ => .ok [] ρ
def xCons (f : Env → Out D) (g : Env → Out (List D)) : Env → Out (List D) := fun ρ => (f ρ).bind fun d ρ1 => (g ρ1).bind fun ds ρ2 => .ok (d :: ds) ρ2
theorem a_nil : AOk X C ks [] xNil := fun p G ρ σ F H Q S q => wa_of pa_nil (q F H (Same.refl _) [] S .nil)
theorem a_cons {g : Env → Out (List D)} (h : EOk X C ks .im e f) (hr : AOk X C ks es g) (hs : starEach (e :: es) X.env = (false, eval e X.env) :: starEach es X.env := by rfl) : AOk X C ks (e :: es) (xCons f g) := fun p G ρ σ F H Q S q => by
  refine wa_of (pa_cons pe_we pa_wa hs) ?_
  refine h.then S q fun d ρ1 F1 H1 v s1 S1 r1 q1 => ?_
  refine hr.then S1 q1 fun ds ρ2 F2 H2 vs s2 S2 r2 q2 => ?_
  exact q2 F2 H2 (Same.refl _) (v :: vs) S2 (.cons (r1.up s2) r2)
def xLst (g : Env → Out (List D)) : Env → Out D := fun ρ => (g ρ).bind fun ds ρ1 => lift (if ds.length ≤ sizeLine then some (.list ds) else none) ρ1
def xTup (g : Env → Out (List D)) : Env → Out D := fun ρ => (g ρ).bind fun ds ρ1 => lift (if ds.length ≤ sizeLine then some (.tuple ds) else none) ρ1
theorem e_lst {g : Env → Out (List D)} (h : AOk X C ks es g) : EOk X C ks .ml (.List es pos) (xLst g) := fun p G ρ σ F H Q S q => by
  refine we_of (pe_lst pa_wa) ?_
  refine h.then S q fun ds ρ1 F1 H1 vs s1 S1 r1 q1 => ?_
  obtain ⟨z, e, q2⟩ := post_lift (β := Unit) q1
  split at e
  · rename_i hz
    cases e
    exact ⟨by rw [r1.length]; exact hz, fun p hp => q2 F1 _ (Same.refl _) _ (ROk.newL S1 hp r1)⟩
  · cases e
theorem e_tup {g : Env → Out (List D)} {x1 : Nat} (h : AOk X C ks es g) : EOk X C ks .im (.Tuple es x1 pos) (xTup g) := fun p G ρ σ F H Q S q => by
  refine we_of (pe_tup pa_wa) ?_
  refine h.then S q fun ds ρ1 F1 H1 vs s1 S1 r1 q1 => ?_
  obtain ⟨z, e, q2⟩ := post_lift (β := Unit) q1
  split at e
  · rename_i hz
    cases e
    exact ⟨by rw [r1.length]; exact hz, fun p hp => grow_tup (Q := Q) S1.same hp r1 fun F' H' z gr rz => q2 F' H' gr.f z (.of (S1.grow gr) rz)⟩
  · cases e
/-! ### built-in functions, types, methods of texts -/
structure WC (X : Cx) (fv : Value) (xs : List V) (H : Hp) (Q : VK) : Prop where
  run : ∀ pins s σ us, Inv X pins σ H s → Vals xs us → wpAny (model X.prog X.w) X.A (call fv us) (EP X pins σ Q) X.xe s
theorem wc_c {fv : Value} : CallR X fv (WC X fv) := fun pins s σ H xs us Q I r h => h.run pins s σ us I r
theorem wc_of {fv : Value} {r : List V → Hp → VK → Prop} {xs : List V} {H : Hp} {Q : VK} (h : CallR X fv r) (q : r xs H Q) : WC X fv xs H Q := ⟨fun pins s σ us I rv => h pins s σ H xs us Q I rv q⟩
def CallD (X : Cx) (fv : Value) (g : List D → Option D) : Prop := ∀ F H xs ds d (Q : VK), Same F H → RepA X.K F xs ds → g ds = some d → (∀ F' H' z, Grow F H F' H' → Rep X.K F' z d → Q z H') → WC X fv xs H Q
/-- .. whose answer is a new list -/
def CallL (X : Cx) (fv : Value) (g : List D → Option (List D)) : Prop := ∀ F H xs ds d (Q : VK), Same F H → RepA X.K F xs ds → g ds = some d → (∀ q zs, H q = none → RepA X.K F zs d → Q (.ref q) (upd H q (.lst zs))) → WC X fv xs H Q
def xCall (g : List D → Option D) (fs : Env → Out (List D)) : Env → Out D := fun ρ => (fs ρ).bind fun ds ρ1 => lift (g ds) ρ1
def xCallL (g : List D → Option (List D)) (fs : Env → Out (List D)) : Env → Out D := fun ρ => (fs ρ).bind fun ds ρ1 => lift ((g ds).map PyData.list) ρ1
theorem call_run {fv : Value} {g : List D → Option D} {fs : Env → Out (List D)} (hc : CallD X fv g) (ha : AOk X C ks es fs) {p : Option Addr} {G : Hp} {ρ : Env} {σ : Sg} {F H : Hp} {Q : VK} (S : SR X.K C.io ks p G [] ρ σ F H)
    (q : PostG X.K C p G F (xCall g fs ρ) (fun d ρ' F' H' => ∀ v, ROk X.K C.io ks p G ρ' σ .im d F' H' v → Q v H')) : WA X es σ H fun vs H1 => WC X fv vs H1 Q := by
  refine ha.then S q fun ds ρ1 F1 H1 vs s1 S1 r1 q1 => ?_
  obtain ⟨z, e, q2⟩ := post_lift (β := Unit) q1
  exact hc F1 H1 vs ds z Q S1.same r1 e fun F' H' z gr rz => q2 F' H' gr.f z (.of (S1.grow gr) rz)
theorem callL_run {fv : Value} {g : List D → Option (List D)} {fs : Env → Out (List D)} (hc : CallL X fv g) (ha : AOk X C ks es fs) {p : Option Addr} {G : Hp} {ρ : Env} {σ : Sg} {F H : Hp} {Q : VK} (S : SR X.K C.io ks p G [] ρ σ F H)
    (q : PostG X.K C p G F (xCallL g fs ρ) (fun d ρ' F' H' => ∀ v, ROk X.K C.io ks p G ρ' σ .ml d F' H' v → Q v H')) : WA X es σ H fun vs H1 => WC X fv vs H1 Q := by
  refine ha.then S q fun ds ρ1 F1 H1 vs s1 S1 r1 q1 => ?_
  obtain ⟨z, e, q2⟩ := post_lift (β := Unit) q1
  cases hg : g ds with
  | none => rw [hg] at e; cases e
  | some zs =>
    rw [hg] at e
    cases e
    exact hc F1 H1 vs ds zs Q S1.same r1 hg fun z ws hz rz => q2 F1 _ (Same.refl _) _ (ROk.newL S1 hz rz)
section
variable {x : Str} {p' : Pos} {id T : String} {fs : Env → Out (List D)}
theorem e_callB {g : List D → Option D} (hc : CallD X (.builtin id) g) (hm : X.mg x = none) (hv : bootBuiltins x = some (.builtin id)) (ha : AOk X C ks (e :: es) fs) (hg : Gl X x := by rfl) (hn : x ≠ "__name__" := by decide) (hdb : (x == ("__debug__" : Str)) = false := by decide)
    (he : starEach (e :: es) X.env = (false, eval e X.env) :: starEach es X.env := by rfl) (hpl : (backTo pos (starEach es X.env)).any (·.1) = false := by rfl) : EOk X C ks .im (.Call (.Name x p') (e :: es) [] pos) (xCall g fs) := fun p G ρ σ F H Q S q =>
  we_of (pe_callB wc_c hg hm hv pa_wa hn hdb he hpl) (call_run hc ha S q)
theorem e_callTy {g : List D → Option D} (hc : CallD X (.type T) g) (hm : X.mg x = none) (hv : bootBuiltins x = some (.type T)) (ha : AOk X C ks (e :: es) fs) (hg : Gl X x := by rfl) (hn : x ≠ "__name__" := by decide) (hdb : (x == ("__debug__" : Str)) = false := by decide)
    (he : starEach (e :: es) X.env = (false, eval e X.env) :: starEach es X.env := by rfl) (hpl : (backTo pos (starEach es X.env)).any (·.1) = false := by rfl) : EOk X C ks .im (.Call (.Name x p') (e :: es) [] pos) (xCall g fs) := fun p G ρ σ F H Q S q =>
  we_of (pe_callTy wc_c hg hm hv pa_wa hn hdb he hpl) (call_run hc ha S q)
theorem e_callBL {g : List D → Option (List D)} (hc : CallL X (.builtin id) g) (hm : X.mg x = none) (hv : bootBuiltins x = some (.builtin id)) (ha : AOk X C ks (e :: es) fs) (hg : Gl X x := by rfl) (hn : x ≠ "__name__" := by decide) (hdb : (x == ("__debug__" : Str)) = false := by decide)
    (he : starEach (e :: es) X.env = (false, eval e X.env) :: starEach es X.env := by rfl) (hpl : (backTo pos (starEach es X.env)).any (·.1) = false := by rfl) : EOk X C ks .ml (.Call (.Name x p') (e :: es) [] pos) (xCallL g fs) := fun p G ρ σ F H Q S q =>
  we_of (pe_callB wc_c hg hm hv pa_wa hn hdb he hpl) (callL_run hc ha S q)
theorem e_callTyL {g : List D → Option (List D)} (hc : CallL X (.type T) g) (hm : X.mg x = none) (hv : bootBuiltins x = some (.type T)) (ha : AOk X C ks (e :: es) fs) (hg : Gl X x := by rfl) (hn : x ≠ "__name__" := by decide) (hdb : (x == ("__debug__" : Str)) = false := by decide)
    (he : starEach (e :: es) X.env = (false, eval e X.env) :: starEach es X.env := by rfl) (hpl : (backTo pos (starEach es X.env)).any (·.1) = false := by rfl) : EOk X C ks .ml (.Call (.Name x p') (e :: es) [] pos) (xCallL g fs) := fun p G ρ σ F H Q S q =>
  we_of (pe_callTy wc_c hg hm hv pa_wa hn hdb he hpl) (callL_run hc ha S q)
/-- a method of texts -/
structure WM (X : Cx) (id : String) (x : V) (xs : List V) (H : Hp) (Q : VK) : Prop where
  run : ∀ pins s σ v us, Inv X pins σ H s → RelV x v → Vals xs us → wpAny (model X.prog X.w) X.A (call (.builtin id) (v :: us)) (EP X pins σ Q) X.xe s
theorem wm_m : MtR X id (WM X id) := fun pins s σ H x xs v us Q I rx r h => h.run pins s σ v us I rx r
theorem wm_of {r : V → List V → Hp → VK → Prop} {x : V} {xs : List V} {H : Hp} {Q : VK} (h : MtR X id r) (q : r x xs H Q) : WM X id x xs H Q := ⟨fun pins s σ v us I rx rv => h pins s σ H x xs v us Q I rx rv q⟩
def MtD (X : Cx) (id : String) (g : Str → List D → Option D) : Prop := ∀ F H z xs ds d (Q : VK), Same F H → RepA X.K F xs ds → g z ds = some d → (∀ F' H' v, Grow F H F' H' → Rep X.K F' v d → Q v H') → WM X id (.str z) xs H Q
def MtDL (X : Cx) (id : String) (g : Str → List D → Option (List D)) : Prop := ∀ F H z xs ds d (Q : VK), Same F H → RepA X.K F xs ds → g z ds = some d → (∀ q zs, H q = none → RepA X.K F zs d → Q (.ref q) (upd H q (.lst zs))) → WM X id (.str z) xs H Q
def xMt (g : Str → List D → Option D) (f : Env → Out D) (fs : Env → Out (List D)) : Env → Out D := fun ρ => (f ρ).bind fun d ρ1 => match d with
  | .str z => (fs ρ1).bind fun ds ρ2 => lift (g z ds) ρ2
  | _ => .bad
def xMtL (g : Str → List D → Option (List D)) (f : Env → Out D) (fs : Env → Out (List D)) : Env → Out D := fun ρ => (f ρ).bind fun d ρ1 => match d with
  | .str z => (fs ρ1).bind fun ds ρ2 => lift ((g z ds).map PyData.list) ρ2
  | _ => .bad
variable {name : Str} {apos cpos : Pos} {o : Expr}
theorem e_mt {g : Str → List D → Option D} (slot : Slot "str" name id) (hty : typeOf (.builtin id) = pure (.type "method_descriptor")) (hm : MtD X id g) (ho : EOk X C ks .im o f) (ha : AOk X C ks (e :: es) fs)
    (hb : attributeBase o name X.env (eval o X.env) = eval o X.env := by rfl)
    (h2 : (((((backTo cpos (starEach (e :: es) X.env)).all fun x => !x.fst) && (backToKw cpos (keywordEach [] X.env)).all fun x => x.fst.isSome) && decide (((e :: es).length + ([] : List Keyword).length + if ([] : List Keyword).isEmpty = true then 0 else 1) < 30)) = true) := by rfl)
    (hl : (apos.endLine == cpos.line) = true := by rfl) (hs : starEach (e :: es) X.env = (false, eval e X.env) :: starEach es X.env := by rfl) (hpl : (backTo cpos (starEach es X.env)).any (·.1) = false := by rfl) :
    EOk X C ks .im (.Call (.Attribute o name apos) (e :: es) [] cpos) (xMt g f fs) := fun p G ρ σ F H Q S q => by
  refine we_of (pe_bm PySem.F.plainAttrs_str slot hty wm_m pe_we pa_wa hb h2 hl hs hpl) ?_
  refine ho.then S q fun d ρ1 F1 H1 v s1 S1 r1 q1 => ?_
  cases r1 with
  | str z =>
    refine ⟨rfl, ?_⟩
    refine ha.then S1 q1 fun ds ρ2 F2 H2 vs s2 S2 r2 q2 => ?_
    obtain ⟨z', e, q3⟩ := post_lift (β := Unit) q2
    exact hm F2 H2 z vs ds z' Q S2.same r2 e fun F' H' z gr rz => q3 F' H' gr.f z (.of (S2.grow gr) rz)
  | _ => exact q1.elim
theorem e_mtL {g : Str → List D → Option (List D)} (slot : Slot "str" name id) (hty : typeOf (.builtin id) = pure (.type "method_descriptor")) (hm : MtDL X id g) (ho : EOk X C ks .im o f) (ha : AOk X C ks (e :: es) fs)
    (hb : attributeBase o name X.env (eval o X.env) = eval o X.env := by rfl)
    (h2 : (((((backTo cpos (starEach (e :: es) X.env)).all fun x => !x.fst) && (backToKw cpos (keywordEach [] X.env)).all fun x => x.fst.isSome) && decide (((e :: es).length + ([] : List Keyword).length + if ([] : List Keyword).isEmpty = true then 0 else 1) < 30)) = true) := by rfl)
    (hl : (apos.endLine == cpos.line) = true := by rfl) (hs : starEach (e :: es) X.env = (false, eval e X.env) :: starEach es X.env := by rfl) (hpl : (backTo cpos (starEach es X.env)).any (·.1) = false := by rfl) :
    EOk X C ks .ml (.Call (.Attribute o name apos) (e :: es) [] cpos) (xMtL g f fs) := fun p G ρ σ F H Q S q => by
  refine we_of (pe_bm PySem.F.plainAttrs_str slot hty wm_m pe_we pa_wa hb h2 hl hs hpl) ?_
  refine ho.then S q fun d ρ1 F1 H1 v s1 S1 r1 q1 => ?_
  cases r1 with
  | str z =>
    refine ⟨rfl, ?_⟩
    refine ha.then S1 q1 fun ds ρ2 F2 H2 vs s2 S2 r2 q2 => ?_
    obtain ⟨z', e, q3⟩ := post_lift (β := Unit) q2
    cases hg : g z ds with
    | none => rw [hg] at e; cases e
    | some zs =>
      rw [hg] at e
      cases e
      exact hm F2 H2 z vs ds zs Q S2.same r2 hg fun z ws hz rz => q3 F2 _ (Same.refl _) _ (ROk.newL S2 hz rz)
  | _ => exact q1.elim
end
/-! ### and, or, not, if as values -/
def xAnd (fa fb : Env → Out D) : Env → Out D := fun ρ => (fa ρ).bind fun d ρ1 => match d with
  | .bool true => fb ρ1
  | .bool false => .ok (.bool false) ρ1
  | _ => .bad
def xOr (fa fb : Env → Out D) : Env → Out D := fun ρ => (fa ρ).bind fun d ρ1 => match d with
  | .bool true => .ok (.bool true) ρ1
  | .bool false => fb ρ1
  | _ => .bad
def xNot (fa : Env → Out D) : Env → Out D := fun ρ => (fa ρ).bind fun d ρ1 => match d with
  | .bool b => .ok (.bool (!b)) ρ1
  | _ => .bad
theorem e_one {op : BoolOp} (h : EOk X C ks .im a fa) : EOk X C ks .im (.BoolOp op [a] pos) fa := fun p G ρ σ F H Q S q => we_of (pe_one pe_we) (h p G ρ σ F H Q S q)
theorem e_and (ha : EOk X C ks .im a fa) (hb : EOk X C ks .im (.BoolOp .And (b :: rest) pos) fb) : EOk X C ks .im (.BoolOp .And (a :: b :: rest) pos) (xAnd fa fb) := fun p G ρ σ F H Q S q => by
  refine we_of (pe_and pe_we pe_we) ?_
  refine ha.then S q fun d ρ1 F1 H1 v s1 S1 r1 q1 => ?_
  cases r1 with
  | bl x =>
    refine ⟨x, rfl, ?_⟩
    cases x with
    | true => exact hb p G ρ1 σ F1 H1 Q S1 q1
    | false => exact q1 F1 H1 (Same.refl _) _ (.of S1 (.bl _))
  | _ => exact q1.elim
theorem e_or (ha : EOk X C ks .im a fa) (hb : EOk X C ks .im (.BoolOp .Or (b :: rest) pos) fb) : EOk X C ks .im (.BoolOp .Or (a :: b :: rest) pos) (xOr fa fb) := fun p G ρ σ F H Q S q => by
  refine we_of (pe_or pe_we pe_we) ?_
  refine ha.then S q fun d ρ1 F1 H1 v s1 S1 r1 q1 => ?_
  cases r1 with
  | bl x =>
    refine ⟨x, rfl, ?_⟩
    cases x with
    | false => exact hb p G ρ1 σ F1 H1 Q S1 q1
    | true => exact q1 F1 H1 (Same.refl _) _ (.of S1 (.bl _))
  | _ => exact q1.elim
theorem e_not (ha : EOk X C ks .im a fa) : EOk X C ks .im (.UnaryOp .Not a pos) (xNot fa) := fun p G ρ σ F H Q S q => by
  refine we_of (pe_not pe_we) ?_
  refine ha.then S q fun d ρ1 F1 H1 v s1 S1 r1 q1 => ?_
  cases r1 with
  | bl x => exact ⟨x, rfl, q1 F1 H1 (Same.refl _) _ (.of S1 (.bl _))⟩
  | _ => exact q1.elim
def xNeg (fa : Env → Out D) : Env → Out D := fun ρ => (fa ρ).bind fun d ρ1 => match d with
  | .int i => .ok (.int (-i)) ρ1
  | _ => .bad
theorem e_neg (ha : EOk X C ks .im a fa) : EOk X C ks .im (.UnaryOp .USub a pos) (xNeg fa) := fun p G ρ σ F H Q S q => by
  refine we_of (pe_un un_neg pe_we) ?_
  refine ha.then S q fun d ρ1 F1 H1 v s1 S1 r1 q1 => ?_
  cases r1 with
  | int x => exact ⟨x, rfl, q1 F1 H1 (Same.refl _) _ (.of S1 (.int _))⟩
  | _ => exact q1.elim
def xIf {α : Type} (t : Env → Out Bool) (fa fb : Env → Out α) : Env → Out α := fun ρ => (t ρ).bind fun c ρ1 => if c then fa ρ1 else fb ρ1
theorem e_if {t : Env → Out Bool} (hc : TOk X C ks c t) (ha : EOk X C ks k a fa) (hb : EOk X C ks k b fb) : EOk X C ks k (.IfExp c a b pos) (xIf t fa fb) := fun p G ρ σ F H Q S q => by
  refine we_of (pe_ifExp pt_wt pe_we pe_we) ?_
  refine hc.then S q fun d ρ1 F1 H1 s1 S1 q1 => ?_
  cases d with
  | true => exact ha p G ρ1 σ F1 H1 Q S1 q1
  | false => exact hb p G ρ1 σ F1 H1 Q S1 q1
/-! ### tests -/
def xB (f : Env → Out D) : Env → Out Bool := fun ρ => (f ρ).bind fun d ρ1 => match d with
  | .bool b => .ok b ρ1
  | _ => .bad
theorem t_val (h : EOk X C ks .im e f) (he : ∀ whole, isTrue e X.env whole = (do let v ← whole; standAt e.pos; holding [v] (truthy v)) := by intro _; rfl) : TOk X C ks e (xB f) := fun p G ρ σ F H Q S q => by
  refine wt_of (pt_val pe_we he) ?_
  refine h.then S q fun d ρ1 F1 H1 v s1 S1 r1 q1 => ?_
  cases r1 with
  | bl x => exact ⟨x, rfl, q1 F1 H1 (Same.refl _) S1⟩
  | _ => exact q1.elim
def truD : D → Option Bool
  | .none => some false
  | .bool b => some b
  | .int i => some (i != 0)
  | .str x => if x.length ≤ sizeLine then some ((x.length : Int) != 0) else none
  | .list ds => some (!ds.isEmpty)
  | .tuple ds => some (!ds.isEmpty)
  | _ => none
def xTru (f : Env → Out D) : Env → Out Bool := fun ρ => (f ρ).bind fun d ρ1 => lift (truD d) ρ1
theorem RepA.isEmpty {K : PySem.W.Frag} {F : Hp} {vs : List V} {ds : List D} (r : RepA K F vs ds) : vs.isEmpty = ds.isEmpty := by
  cases ds <;> cases r <;> rfl
theorem t_tru (h : EOk X C ks .im e f) (he : ∀ whole, isTrue e X.env whole = (do let v ← whole; standAt e.pos; holding [v] (truthy v)) := by intro _; rfl) : TOk X C ks e (xTru f) := fun p G ρ σ F H Q S q => by
  refine wt_of (pt_truth pe_we he) ?_
  refine h.then S q fun d ρ1 F1 H1 v s1 S1 r1 q1 => ?_
  obtain ⟨z, e, q2⟩ := post_lift (β := Unit) q1
  have q3 := q2 F1 H1 (Same.refl _) S1
  cases r1 with
  | non => cases e; exact ⟨_, rfl, q3⟩
  | bl x => cases e; exact ⟨_, rfl, q3⟩
  | int x => cases e; exact ⟨_, rfl, q3⟩
  | str x =>
    simp only [truD] at e
    split at e
    · rename_i hz
      cases e; exact ⟨_, ⟨hz, rfl⟩, q3⟩
    · cases e
  | lst h1 r => cases e; exact ⟨_, .inl ⟨_, .inl (.inl (S1.same _ _ h1)), by rw [r.isEmpty]⟩, q3⟩
  | tup h1 r => cases e; exact ⟨_, .inr (.inl ⟨_, Same.sqT S1.same h1, by rw [r.isEmpty]⟩), q3⟩
  | dic h1 r => cases e
theorem t_cmp {op : CmpOp} {g : D → D → Option D} (ho : OpD X (compareOp op) g) (ha : EOk X C ks .im a fa) (hb : EOk X C ks .im b fb) (hm : behindInMarks op b = false := by rfl) : TOk X C ks (.Compare a [op] [b] pos) (xB (xBin g fa fb)) := fun p G ρ σ F H Q S q => by
  refine wt_of (pt_cmpR wo_op pe_we pe_we hm) ?_
  have q' : PostG X.K C p G F (xBin g fa fb ρ) (fun d ρ' F' H' => ∀ v, ROk X.K C.io ks p G ρ' σ .im d F' H' v → ∃ k, v = V.bl k ∧ Q k H') := q.bind.imp fun d ρ1 F1 H1 s1 q1 v r => by
    obtain ⟨S1, r1⟩ := r.im
    cases r1 with
    | bl x => exact ⟨x, rfl, q1 F1 H1 (Same.refl _) S1⟩
    | _ => exact q1.elim
  exact op_run ho ha hb S q'
def xNotT (t : Env → Out Bool) : Env → Out Bool := fun ρ => (t ρ).bind fun b ρ1 => .ok (!b) ρ1
def xAndT (t u : Env → Out Bool) : Env → Out Bool := fun ρ => (t ρ).bind fun b ρ1 => if b then u ρ1 else .ok false ρ1
def xOrT (t u : Env → Out Bool) : Env → Out Bool := fun ρ => (t ρ).bind fun b ρ1 => if b then .ok true ρ1 else u ρ1
theorem t_not {t : Env → Out Bool} (h : TOk X C ks a t) : TOk X C ks (.UnaryOp .Not a pos) (xNotT t) := fun p G ρ σ F H Q S q => by
  refine wt_of (pt_not pt_wt) ?_
  refine h.then S q fun d ρ1 F1 H1 s1 S1 q1 => q1 F1 H1 (Same.refl _) S1
theorem t_w {t : Env → Out Bool} (h : WOk X C ks e t) : TOk X C ks e t := fun p G ρ σ F H Q S q => wt_of (pw_ww.pt) (h p G ρ σ F H Q S q)
theorem w_and1 {t : Env → Out Bool} (h : TOk X C ks a t) : WOk X C ks (.BoolOp .And [a] pos) t := fun p G ρ σ F H Q S q => ww_of (pw_and1 pt_wt) (h p G ρ σ F H Q S q)
theorem w_or1 {t : Env → Out Bool} (h : TOk X C ks a t) : WOk X C ks (.BoolOp .Or [a] pos) t := fun p G ρ σ F H Q S q => ww_of (pw_or1 pt_wt) (h p G ρ σ F H Q S q)
theorem w_and {t u : Env → Out Bool} (h : TOk X C ks a t) (hr : WOk X C ks (.BoolOp .And (b :: rest) pos) u) : WOk X C ks (.BoolOp .And (a :: b :: rest) pos) (xAndT t u) := fun p G ρ σ F H Q S q => by
  refine ww_of (pw_and pt_wt pw_ww) ?_
  refine h.then S q fun d ρ1 F1 H1 s1 S1 q1 => ?_
  cases d with
  | true => exact hr p G ρ1 σ F1 H1 Q S1 q1
  | false => exact q1 F1 H1 (Same.refl _) S1
theorem w_or {t u : Env → Out Bool} (h : TOk X C ks a t) (hr : WOk X C ks (.BoolOp .Or (b :: rest) pos) u) : WOk X C ks (.BoolOp .Or (a :: b :: rest) pos) (xOrT t u) := fun p G ρ σ F H Q S q => by
  refine ww_of (pw_or pt_wt pw_ww) ?_
  refine h.then S q fun d ρ1 F1 H1 s1 S1 q1 => ?_
  cases d with
  | true => exact q1 F1 H1 (Same.refl _) S1
  | false => exact hr p G ρ1 σ F1 H1 Q S1 q1
/-! ### a op b op' c -/
def xChain (g g' : D → D → Option D) (fa fb fc : Env → Out D) : Env → Out D := fun ρ => (fa ρ).bind fun x ρ1 => (fb ρ1).bind fun y ρ2 => match g x y with
  | some (.bool true) => (fc ρ2).bind fun z ρ3 => lift (g' y z) ρ3
  | some (.bool false) => .ok (.bool false) ρ2
  | _ => .bad
theorem chain_run {op op' : CmpOp} {g g' : D → D → Option D} {fc : Env → Out D} (ho : OpD X (compareOp op) g) (ho' : OpD X (compareOp op') g') (ha : EOk X C ks .im a fa) (hb : EOk X C ks .im b fb) (hc : EOk X C ks .im c fc)
    {p : Option Addr} {G : Hp} {ρ : Env} {σ : Sg} {F H : Hp} {Q : VK} (S : SR X.K C.io ks p G [] ρ σ F H) (q : PostG X.K C p G F (xChain g g' fa fb fc ρ) (fun d ρ' F' H' => ∀ v, ROk X.K C.io ks p G ρ' σ .im d F' H' v → Q v H')) :
    tChain (WO X (compareOp op)) (WO X (compareOp op')) (WE X a) (WE X b) (WE X c) σ H Q := by
  refine ha.then S q fun x ρ1 F1 H1 v s1 S1 r1 q1 => ?_
  refine hb.then S1 q1 fun y ρ2 F2 H2 u s2 S2 r2 q2 => ?_
  cases hg : g x y with
  | none => rw [hg] at q2; exact q2.elim
  | some d =>
    rw [hg] at q2
    refine ho F2 H2 v u x y d _ S2.same (r1.up s2) r2 hg fun F3 H3 z gr rz => ?_
    have S3 := S2.grow gr
    cases rz with
    | bl k =>
      refine ⟨k, rfl, ?_⟩
      cases k with
      | false => exact q2 F3 H3 gr.f _ (.of S3 (.bl _))
      | true =>
        refine hc.then S3 (q2.mono gr.f) fun w ρ3 F4 H4 t s4 S4 r4 q4 => ?_
        obtain ⟨d', e, q5⟩ := post_lift (β := Unit) q4
        exact ho' F4 H4 u t y w d' Q S4.same (r2.up (gr.f.trans s4)) r4 e fun F' H' z gr rz => q5 F' H' gr.f z (.of (S4.grow gr) rz)
    | _ => exact q2.elim
theorem e_chain {op op' : CmpOp} {g g' : D → D → Option D} {fc : Env → Out D} (ho : OpD X (compareOp op) g) (ho' : OpD X (compareOp op') g') (ha : EOk X C ks .im a fa) (hb : EOk X C ks .im b fb) (hc : EOk X C ks .im c fc) (hm : lastMarks [op, op'] [b, c] = false := by rfl) :
    EOk X C ks .im (.Compare a [op, op'] [b, c] pos) (xChain g g' fa fb fc) := fun p G ρ σ F H Q S q => we_of (pe_chain wo_op wo_op pe_we pe_we pe_we hm) (chain_run ho ho' ha hb hc S q)
theorem t_chain {op op' : CmpOp} {g g' : D → D → Option D} {fc : Env → Out D} (ho : OpD X (compareOp op) g) (ho' : OpD X (compareOp op') g') (ha : EOk X C ks .im a fa) (hb : EOk X C ks .im b fb) (hc : EOk X C ks .im c fc) (hm : lastMarks [op, op'] [b, c] = false := by rfl) :
    TOk X C ks (.Compare a [op, op'] [b, c] pos) (xB (xChain g g' fa fb fc)) := fun p G ρ σ F H Q S q => by
  refine wt_of (pt_chain wo_op wo_op pe_we pe_we pe_we hm) ?_
  have q' : PostG X.K C p G F (xChain g g' fa fb fc ρ) (fun d ρ' F' H' => ∀ v, ROk X.K C.io ks p G ρ' σ .im d F' H' v → ∃ k, v = V.bl k ∧ Q k H') := q.bind.imp fun d ρ1 F1 H1 s1 q1 v r => by
    obtain ⟨S1, r1⟩ := r.im
    cases r1 with
    | bl x => exact ⟨x, rfl, q1 F1 H1 (Same.refl _) S1⟩
    | _ => exact q1.elim
  exact chain_run ho ho' ha hb hc S q'
end
end De
set_option maxHeartbeats 4000000
/-! De5: defs: their promise, their calls, their bodies. -/
namespace De
open PySem PySem.Spec L2
/-! ### a promise that holds where no repr is under way -/
structure FnG (P : Program) (w : World) (K : PySem.W.Frag) (mg : Str → Option Value) (base : Heap) (k : Nat) (f : Addr) (fd : FuncData) (ps : List Str) (sp : Sp) : Prop where
  len : ∀ vs H Q E, sp vs H Q E → vs.length = ps.length
  go : ∀ (A : Around) (outer : List PySem.Env) (s : Shared) (H : Hp) (args : Args) (us : List Value) (vs : List V) (Q : VK) (E : XK), A.guards = some [] → Room k A → Env0 P w K mg base A outer s H →
    BindsTo s fd args (ps.zip us) → Vals vs us → sp vs H Q E → codeAny (model P w) A (.call (.ref f) args) (CR (L2.CX P w) outer P w H s Q E) s
section
variable {X : Cx} {k : Nat} {f : Addr} {fd : FuncData} {ps : List Str} {sp : Sp} {E : XK} {W : WX}
theorem cr_end {pins : List (Addr × Obj)} {σ : Sg} {H : Hp} {s s' : Shared} {Q : VK} {r : Result} (tk : Takes X W) (hE : ∀ cls d H', E cls d H' → W cls d σ H') (I : Inv X pins σ H s) (hq : CR (L2.CX X.prog X.w) X.stack X.prog X.w H s Q E r s') :
    (match r with
      | .ok fl => match fl with
        | .ret u => EP X pins σ Q u s'
        | _ => False
      | .error e => X.xe e s') := by
  rcases r with e | fl
  · exact tk e s' (XE.of_call I hE hq)
  · rcases fl with _ | _ | _ | u
    all_goals first | exact I.after hq | exact hq
theorem go_call {pins : List (Addr × Obj)} {σ : Sg} {H : Hp} {s : Shared} {Q : VK} {us : List Value} {vs : List V} (Fn : FnG X.prog X.w X.K X.mg X.base k f fd ps sp) (hgd : X.A.guards = some []) (hr : Room k X.A) (hb : Binds X.K fd ps []) (tk : Takes X W)
    (hE : ∀ cls d H', E cls d H' → W cls d σ H') (I : Inv X pins σ H s) (rv : Vals vs us) (h : sp vs H Q E) : wpAny (model X.prog X.w) X.A (call (.ref f) us) (EP X pins σ Q) X.xe s := by
  have hl : us.length = ps.length := rv.length ▸ Fn.len _ _ _ _ h
  have b0 := hb s us I.kIn (by simpa using hl)
  rw [List.append_nil] at b0
  refine wpAny_call (codeAny_mono (Fn.go _ _ _ _ _ _ _ Q E hgd hr I.env0 b0 rv h) fun r s' hq => ?_)
  have z := cr_end tk hE I hq
  rcases r with e | fl
  · exact z
  · rcases fl with _ | _ | _ | u
    all_goals first | exact z | exact z.elim
/-- by keywords: qs the names as they are written, gV puts the values in the parameters' order -/
structure KwB (K : PySem.W.Frag) (fd : FuncData) (ps qs : List Str) (gW : List Value → List Value) (gV : List V → List V) : Prop where
  to : ∀ (s : Shared) (ws : List Value), K.In s.heap → (gW ws).length = ps.length → BindsTo s fd ⟨[], qs.zip ws⟩ (ps.zip (gW ws))
  rel : ∀ {zs : List V} {ws : List Value}, Vals zs ws → Vals (gV zs) (gW ws)
theorem go_callK {pins : List (Addr × Obj)} {σ : Sg} {H : Hp} {s : Shared} {Q : VK} {ws : List Value} {zs : List V} {qs : List Str} {gW : List Value → List Value} {gV : List V → List V} (Fn : FnG X.prog X.w X.K X.mg X.base k f fd ps sp) (hgd : X.A.guards = some []) (hr : Room k X.A)
    (hb : KwB X.K fd ps qs gW gV) (tk : Takes X W) (hE : ∀ cls d H', E cls d H' → W cls d σ H') (I : Inv X pins σ H s) (rv : Vals zs ws) (h : sp (gV zs) H Q E) : wpAny (model X.prog X.w) X.A (call (.ref f) [] (qs.zip ws)) (EP X pins σ Q) X.xe s := by
  have rg := hb.rel rv
  have hl : (gW ws).length = ps.length := rg.length ▸ Fn.len _ _ _ _ h
  refine wpAny_call (codeAny_mono (Fn.go _ _ _ _ _ _ _ Q E hgd hr I.env0 (hb.to s ws I.kIn hl) rg h) fun r s' hq => ?_)
  have z := cr_end tk hE I hq
  rcases r with e | fl
  · exact z
  · rcases fl with _ | _ | _ | u
    all_goals first | exact z | exact z.elim
variable {x : Str} {p' pos : Pos} {e : Expr} {es : List Expr}
theorem we_call {σ : Sg} {H : Hp} {Q : VK} (Fn : FnG X.prog X.w X.K X.mg X.base k f fd ps sp) (hgd : X.A.guards = some []) (hr : Room k X.A) (hb : Binds X.K fd ps []) (tk : Takes X W) (hE : ∀ cls d H', E cls d H' → W cls d σ H')
    (hm : X.mg x = some (.ref f)) (hk : PySem.W.keepIn X.K (.ref f) = true) (hg : Gl X x) (hdb : (x == ("__debug__" : Str)) = false)
    (he : starEach (e :: es) X.env = (false, eval e X.env) :: starEach es X.env) (hpl : (backTo pos (starEach es X.env)).any (·.1) = false) (h : WA X (e :: es) σ H fun vs H1 => sp vs H1 Q E) : WE X (.Call (.Name x p') (e :: es) [] pos) σ H Q := by
  refine ⟨fun pins s I => PySem.wpAny_Call_Name_kw (ld_glob I hg hm ?_ hdb)⟩
  exact PySem.W.callWith_K (h₀ := X.base) I.ok.mod.kin hk (thn (h.run pos pins s I) fun us s1 ⟨vs, H1, I1, r, q⟩ => ⟨I1.kIn, go_call Fn hgd hr hb tk hE I1 r q⟩) he hpl
theorem we_call0 {σ : Sg} {H : Hp} {Q : VK} (Fn : FnG X.prog X.w X.K X.mg X.base k f fd ps sp) (hgd : X.A.guards = some []) (hr : Room k X.A) (hb : Binds X.K fd ps []) (tk : Takes X W) (hE : ∀ cls d H', E cls d H' → W cls d σ H')
    (hm : X.mg x = some (.ref f)) (hk : PySem.W.keepIn X.K (.ref f) = true) (hg : Gl X x) (hdb : (x == ("__debug__" : Str)) = false) (h : sp [] H Q E) : WE X (.Call (.Name x p') [] [] pos) σ H Q := by
  refine ⟨fun pins s I => PySem.wpAny_Call_Name_kw (ld_glob I hg hm ?_ hdb)⟩
  exact PySem.W.callWith_K0 I.kIn hk (go_call (us := []) Fn hgd hr hb tk hE I .nil h)
structure WK (X : Cx) (kws : List Keyword) (σ : Sg) (H : Hp) (Q : List V → Hp → Prop) : Prop where
  run : ∀ pos pins s, Inv X pins σ H s → wpAny (model X.prog X.w) X.A (evalAll ((backToKw pos (keywordEach kws X.env)).map (·.2))) (AP X pins σ Q) X.xe s
theorem pk_wk {kws : List Keyword} : PK X kws (WK X kws) := ⟨fun pos pins s σ H Q I h => h.run pos pins s I⟩
theorem wk_of {kws : List Keyword} {t : TA} {σ : Sg} {H : Hp} {Q : List V → Hp → Prop} (h : PK X kws t) (q : t σ H Q) : WK X kws σ H Q := ⟨fun pos pins s I => h.run pos pins s σ H Q I q⟩
theorem we_callK {σ : Sg} {H : Hp} {Q : VK} {kws : List Keyword} {qs : List Str} {gW : List Value → List Value} {gV : List V → List V} (Fn : FnG X.prog X.w X.K X.mg X.base k f fd ps sp) (hgd : X.A.guards = some []) (hr : Room k X.A) (hb : KwB X.K fd ps qs gW gV) (tk : Takes X W)
    (hE : ∀ cls d H', E cls d H' → W cls d σ H') (hm : X.mg x = some (.ref f)) (hk : PySem.W.keepIn X.K (.ref f) = true) (hg : Gl X x) (hdb : (x == ("__debug__" : Str)) = false)
    (hall : (backToKw pos (keywordEach kws X.env)).all (·.1.isSome) = true) (hks : (backToKw pos (keywordEach kws X.env)).filterMap (·.1) = qs) (hpl : ((backTo pos (starEach [] X.env)).any (·.1) || (backToKw pos (keywordEach kws X.env)).any (·.1.isNone)) = false)
    (h : WK X kws σ H fun vs H1 => sp (gV vs) H1 Q E) : WE X (.Call (.Name x p') [] kws pos) σ H Q := by
  refine ⟨fun pins s I => PySem.wpAny_Call_Name_kw (ld_glob I hg hm ?_ hdb)⟩
  refine PySem.W.callWith_KW0 (h₀ := X.base) I.ok.mod.kin hk hall (thn (h.run pos pins s I) fun ws s2 ⟨zs, H2, I2, rz, q2⟩ => ⟨I2.kIn, ?_⟩) hpl
  rw [hks]
  exact go_callK Fn hgd hr hb tk hE I2 rz q2
end

/-! ### a def as a function of data -/
structure Df where
  io : Bool
  k0 : List SK
  kx : List SK
  rm : SK
/-- the def's promise: g is what it computes -/
def spD (K : PySem.W.Frag) (xt : Nat → Addr × Str) (df : Df) (n : Nat) (g : List D → Out D) : Sp := fun vs H Q E => ∃ p G ds F, vs.length = n ∧ SR K df.io df.k0 p G [] (ds.map some) (vs.map some) F H ∧
  PostG K { xt := xt, W := fun cls da _ H' => E cls da H', io := df.io, kx := df.kx, rm := df.rm } p G F (g ds) (fun d ρ F' H' => ∀ σ v, ROk K df.io df.kx p G ρ σ df.rm d F' H' v → Q v H')
def FnD (P : Program) (w : World) (K : PySem.W.Frag) (mg : Str → Option Value) (base : Heap) (xt : Nat → Addr × Str) (k : Nat) (f : Addr) (fd : FuncData) (ps : List Str) (df : Df) (g : List D → Out D) : Prop :=
  FnG P w K mg base k f fd ps (spD K xt df ps.length g)
/-- a def that takes data alone -/
abbrev df0 (rm : SK) : Df := ⟨false, [], [], rm⟩

/-! ### around a call -/
section
variable {K : PySem.W.Frag} {io : Bool} {ks : List SK} {p : Option Addr} {G : Hp} {ρ : Env} {σ : Sg} {F H F' H' : Hp}
open Classical in
noncomputable def frm (fp : Nat → List Addr) (J : Nat → Prop) (G H : Hp) : Hp := fun b => if ∃ j, J j ∧ b ∈ fp j then H b else G b
theorem frm_in {fp : Nat → List Addr} {J : Nat → Prop} {b : Addr} {j : Nat} (hj : J j) (hb : b ∈ fp j) : frm fp J G H b = H b := if_pos ⟨j, hj, hb⟩
theorem frm_out {fp : Nat → List Addr} {J : Nat → Prop} {b : Addr} (h : ¬ ∃ j, J j ∧ b ∈ fp j) : frm fp J G H b = G b := if_neg h
/-- what the callee is given of the heap -/
theorem frm_gs {fp : Nat → List Addr} {J : Nat → Prop} (s : Same G H) : Same (frm fp J G H) H := fun b o e => by
  by_cases hb : ∃ j, J j ∧ b ∈ fp j
  · obtain ⟨j, hj, hb⟩ := hb
    rw [frm_in hj hb] at e; exact e
  · rw [frm_out hb] at e; exact s b o e
theorem frm_gd {fp : Nat → List Addr} {J : Nat → Prop} (h : ∀ j a, a ∈ fp j → F a = none) (g : ∀ b o, G b = some o → F b = none) : ∀ b o, frm fp J G H b = some o → F b = none := fun b o e => by
  by_cases hb : ∃ j, J j ∧ b ∈ fp j
  · obtain ⟨j, hj, hb⟩ := hb
    exact h j b hb
  · rw [frm_out hb] at e; exact g b o e
/-- the caller's state behind the call: slot j of J as it was; the others by h -/
theorem frm_back {ex : List Addr} {ρ' : Env} {fp : Nat → List Addr} {J : Nat → Prop} (S : SR K io ks p G [] ρ σ F H)
    (h1 : ∀ i, SlotR K F H (ks.getD i .im) (ρ[i]?.join) (σ[i]?.join) (fp i)) (h2 : ∀ i, (fp i).Nodup) (h3 : ∀ i j a, a ∈ fp i → a ∈ fp j → i = j) (h4 : ∀ i a, a ∈ fp i → F a = none ∧ G a = none ∧ a ∉ ([] : List Addr))
    (s : Same F F') (s' : Same F' H') (gs : Same (frm fp J G H) H') (gd : ∀ b o, frm fp J G H b = some o → F' b = none) (hx : ∀ a ∈ ex, frm fp J G H a = none) (hl : ρ'.length = ρ.length) (hρ : ∀ i, J i → ρ'[i]?.join = ρ[i]?.join)
    (ho : ∀ i, ¬ J i → SlotR K F' H' (ks.getD i .im) (ρ'[i]?.join) (σ[i]?.join) (fp i) ∧ ∀ a ∈ fp i, F' a = none ∧ a ∉ ex) : SR K io ks p G ex ρ' σ F' H' := by
  have up : ∀ b o, G b = some o → frm fp J G H b = some o := fun b o e => by
    rw [frm_out fun ⟨j, _, hb⟩ => by rw [(h4 j b hb).2.1] at e; cases e]; exact e
  have th : ∀ i, J i → ∀ b ∈ fp i, ∃ o, H b = some o ∧ frm fp J G H b = some o := fun i hi b hb => by
    obtain ⟨o, e⟩ := (h1 i).there b hb
    exact ⟨o, e, by rw [frm_in hi hb]; exact e⟩
  refine ⟨s', by rw [hl]; exact S.len, S.pio, S.pin, fun b o e => gs b o (up b o e), fun b o e => gd b o (up b o e), fp, fun i => ?_, h2, h3, fun i a ha => ?_⟩
  · by_cases hi : J i
    · rw [hρ i hi]
      exact (h1 i).up s fun b hb => by
        obtain ⟨o, e1, e2⟩ := th i hi b hb
        rw [e1, gs b o e2]
    · exact (ho i hi).1
  · by_cases hi : J i
    · obtain ⟨o, e1, e2⟩ := th i hi a ha
      exact ⟨gd a o e2, (h4 i a ha).2.1, fun z => by rw [hx a z] at e2; cases e2⟩
    · obtain ⟨_, z⟩ := ho i hi
      exact ⟨(z a ha).1, (h4 i a ha).2.1, (z a ha).2⟩
end
/-! ### the call of a def, by data alone -/
def Out.seal (o : Out D) (ρ : Env) : Out D :=
  match o with
  | .ok d _ => .ok d ρ
  | .exc c d _ => .exc c d ρ
  | .bad => .bad
def xFn (g : List D → Out D) (fs : Env → Out (List D)) : Env → Out D := fun ρ => (fs ρ).bind fun ds ρ1 => (g ds).seal ρ1
theorem slots_im {K : PySem.W.Frag} {F H : Hp} {ds : List D} {vs : List V} (r : RepA K F vs ds) (i : Nat) : SlotR K F H .im ((ds.map some)[i]?.join) ((vs.map some)[i]?.join) [] := by
  rw [List.getElem?_map, List.getElem?_map]
  cases e : ds[i]? with
  | none => exact SlotR.none'
  | some d =>
    obtain ⟨v, e1, r1⟩ := r.get e
    rw [e1]
    exact ⟨rfl, v, rfl, r1⟩
section
variable {X : Cx} {C : Cs} {ks : List SK} {k : Nat} {f : Addr} {fd : FuncData} {ps : List Str} {g : List D → Out D} {rm : SK} {p : Option Addr} {G : Hp} {ρ : Env} {σ : Sg} {F H : Hp} {Q : VK}
/-- what a caller wants of the callee -/
theorem sp_call {vs : List V} {ds : List D} (hkf : kfb C.io C.kx ks = true) (S : SR X.K C.io ks p G [] ρ σ F H) (r : RepA X.K F vs ds) (hn : vs.length = ps.length)
    (q : PostG X.K C p G F ((g ds).seal ρ) (fun d ρ' F' H' => ∀ v, ROk X.K C.io ks p G ρ' σ rm d F' H' v → Q v H')) : spD X.K C.xt (df0 rm) ps.length g vs H Q (fun cls da H' => C.W cls da σ H') := by
  obtain ⟨fp, h1, h2, h3, h4⟩ := id S.st
  have gF : ∀ j a, a ∈ fp j → F a = none := fun j a ha => (h4 j a ha).1
  refine ⟨none, frm fp (fun _ => True) G H, ds, F, hn, ⟨S.same, by simp [r.length], fun _ => rfl, (fun a z => nomatch z), frm_gs S.gs, frm_gd gF S.gd, fun _ => [], fun i => ?_, fun _ => List.nodup_nil, (fun _ _ _ z => nomatch z), (fun _ _ z => nomatch z)⟩, ?_⟩
  · have e : ([] : List SK).getD i .im = .im := by simp
    rw [e]
    exact slots_im r i
  · have back : ∀ {F' H' : Hp} {ex : List Addr} {ks' : List SK} {ρ' : Env} {σ' : Sg}, Same F F' → SR X.K false ks' none (frm fp (fun _ => True) G H) ex ρ' σ' F' H' → (∀ a ∈ ex, frm fp (fun _ => True) G H a = none) → SR X.K C.io ks p G ex ρ σ F' H' := fun s S' hx =>
      frm_back S h1 h2 h3 h4 s S'.same S'.gs S'.gd hx rfl (fun _ _ => rfl) fun i z => absurd trivial z
    cases hg : g ds with
    | bad => rw [hg] at q; exact q
    | ok d ρ' =>
      rw [hg] at q
      intro F' H' s σ' v ⟨ex, S', hs, nd, fr⟩
      refine q F' H' s v ⟨ex, back s S' fun a ha => (fr a ha).2, hs, nd, fun a ha => ⟨(fr a ha).1, ?_⟩⟩
      have z := (fr a ha).2
      by_cases hb : ∃ j, True ∧ a ∈ fp j
      · obtain ⟨j, _, hb⟩ := hb
        exact (h4 j a hb).2.1
      · rw [frm_out hb] at z; exact z
    | exc c d ρ' =>
      rw [hg] at q
      intro F' H' σ' cls da s S' xr
      obtain ⟨F2, s2, S2, _⟩ := SR.kf hkf (back s S' (fun a z => nomatch z))
      obtain ⟨e1, dx, v, e2, e3, r3⟩ := xr
      exact q F2 H' σ cls da (s.trans s2) S2 ⟨e1, dx, v, e2, s2 _ _ e3, r3.up s2⟩
variable {x : Str} {p' pos : Pos} {e : Expr} {es : List Expr} {fs : Env → Out (List D)}
theorem e_fn (Fn : FnD X.prog X.w X.K X.mg X.base C.xt k f fd ps (df0 rm) g) (hgd : X.A.guards = some []) (hr : Room k X.A) (hb : Binds X.K fd ps []) (tk : Takes X C.W) (hm : X.mg x = some (.ref f)) (hk : PySem.W.keepIn X.K (.ref f) = true) (ha : AOk X C ks (e :: es) fs)
    (hlen : ∀ ds, ds.length ≠ ps.length → g ds = .bad) (hkf : kfb C.io C.kx ks = true := by rfl) (hg : Gl X x := by rfl) (hdb : (x == ("__debug__" : Str)) = false := by decide)
    (he : starEach (e :: es) X.env = (false, eval e X.env) :: starEach es X.env := by rfl) (hpl : (backTo pos (starEach es X.env)).any (·.1) = false := by rfl) : EOk X C ks rm (.Call (.Name x p') (e :: es) [] pos) (xFn g fs) := fun p G ρ σ F H Q S q => by
  refine we_call (E := fun cls da H' => C.W cls da σ H') Fn hgd hr hb tk (fun _ _ _ z => z) hm hk hg hdb he hpl ?_
  refine ha.then S q fun ds ρ1 F1 H1 vs s1 S1 r1 q1 => ?_
  by_cases hn : ds.length = ps.length
  · exact sp_call hkf S1 r1 (r1.length.trans hn) q1
  · rw [hlen ds hn] at q1; exact q1.elim
theorem e_fn0 (Fn : FnD X.prog X.w X.K X.mg X.base C.xt k f fd [] (df0 rm) g) (hgd : X.A.guards = some []) (hr : Room k X.A) (hb : Binds X.K fd [] []) (tk : Takes X C.W) (hm : X.mg x = some (.ref f)) (hk : PySem.W.keepIn X.K (.ref f) = true)
    (hkf : kfb C.io C.kx ks = true := by rfl) (hg : Gl X x := by rfl) (hdb : (x == ("__debug__" : Str)) = false := by decide) : EOk X C ks rm (.Call (.Name x p') [] [] pos) (xFn g xNil) := fun p G ρ σ F H Q S q =>
  we_call0 (E := fun cls da H' => C.W cls da σ H') Fn hgd hr hb tk (fun _ _ _ z => z) hm hk hg hdb (sp_call (ps := []) hkf S .nil rfl q)
/-- keywords -/
def KOk (X : Cx) (C : Cs) (ks : List SK) (kws : List Keyword) (f : Env → Out (List D)) : Prop :=
  ∀ p G ρ σ F H Q, SR X.K C.io ks p G [] ρ σ F H → PostG X.K C p G F (f ρ) (fun ds ρ' F' H' => ∀ vs, SR X.K C.io ks p G [] ρ' σ F' H' → RepA X.K F' vs ds → Q vs H') → WK X kws σ H Q
theorem k_nil : KOk X C ks [] xNil := fun p G ρ σ F H Q S q => wk_of pk_nil (q F H (Same.refl _) [] S .nil)
theorem k_cons {nm : Option Str} {kpos : Pos} {kws : List Keyword} {fe : Env → Out D} {gs : Env → Out (List D)} (h : EOk X C ks .im e fe) (hr : KOk X C ks kws gs) : KOk X C ks (⟨nm, e, kpos⟩ :: kws) (xCons fe gs) := fun p G ρ σ F H Q S q => by
  refine wk_of (pk_cons pe_we pk_wk) ?_
  refine h.then S q fun d ρ1 F1 H1 v s1 S1 r1 q1 => ?_
  refine hr p G ρ1 σ F1 H1 _ S1 (q1.bind.imp fun ds ρ2 F2 H2 s2 q2 vs S2 r2 => ?_)
  exact q2 F2 H2 (Same.refl _) (v :: vs) S2 (.cons (r1.up s2) r2)
def xFnK (g : List D → Out D) (gD : List D → List D) (fs : Env → Out (List D)) : Env → Out D := fun ρ => (fs ρ).bind fun ds ρ1 => (g (gD ds)).seal ρ1
theorem e_fnK {kws : List Keyword} {qs : List Str} {gW : List Value → List Value} {gV : List V → List V} {gD : List D → List D} (Fn : FnD X.prog X.w X.K X.mg X.base C.xt k f fd ps (df0 rm) g) (hgd : X.A.guards = some []) (hr : Room k X.A) (hb : KwB X.K fd ps qs gW gV) (tk : Takes X C.W)
    (hm : X.mg x = some (.ref f)) (hk : PySem.W.keepIn X.K (.ref f) = true) (ha : KOk X C ks kws fs) (hgD : ∀ {K F vs ds}, RepA K F vs ds → RepA K F (gV vs) (gD ds)) (hlen : ∀ ds, ds.length ≠ ps.length → g ds = .bad) (hkf : kfb C.io C.kx ks = true := by rfl)
    (hg : Gl X x := by rfl) (hdb : (x == ("__debug__" : Str)) = false := by decide) (hall : (backToKw pos (keywordEach kws X.env)).all (·.1.isSome) = true := by rfl) (hks : (backToKw pos (keywordEach kws X.env)).filterMap (·.1) = qs := by rfl)
    (hpl : ((backTo pos (starEach [] X.env)).any (·.1) || (backToKw pos (keywordEach kws X.env)).any (·.1.isNone)) = false := by rfl) : EOk X C ks rm (.Call (.Name x p') [] kws pos) (xFnK g gD fs) := fun p G ρ σ F H Q S q => by
  refine we_callK (E := fun cls da H' => C.W cls da σ H') Fn hgd hr hb tk (fun _ _ _ z => z) hm hk hg hdb hall hks hpl ?_
  refine ha p G ρ σ F H _ S (q.bind.imp fun ds ρ1 F1 H1 s1 q1 vs S1 r1 => ?_)
  have r2 := hgD r1
  by_cases hn : (gD ds).length = ps.length
  · exact sp_call hkf S1 r2 (r2.length.trans hn) q1
  · rw [hlen _ hn] at q1; exact q1.elim
end
end De
set_option maxHeartbeats 4000000
/-! De6: calls that hand on an own thing; own things read; displays of moves. -/
namespace De
open PySem PySem.Spec L2
def sealAt (i : Nat) (o : Out D) (ρ : Env) : Out D :=
  match o with
  | .ok d ρ' => (match ρ'[0]?.join with
    | some d' => .ok d (ρ.set i (some d'))
    | none => .bad)
  | .exc c d ρ' => (match ρ'[0]?.join with
    | some d' => .exc c d (ρ.set i (some d'))
    | none => .bad)
  | .bad => .bad
def xFn1 (i : Nat) (g : List D → Out D) (fs : Env → Out (List D)) : Env → Out D := fun ρ => match ρ[i]?.join with
  | none => .bad
  | some _ => (fs ρ).bind fun ds ρ1 => match ρ1[i]?.join with
    | none => .bad
    | some d0 => sealAt i (g (d0 :: ds)) ρ1
def xFnS (i : Nat) (g : List D → Out D) (fs : Env → Out (List D)) : Env → Out D := fun ρ => match ρ[i]?.join with
  | none => .bad
  | some _ => (fs ρ).bind fun ds ρ1 => match ρ1[i]?.join with
    | none => .bad
    | some d0 => (g (d0 :: ds)).seal ρ1
/-- kinds of one own object -/
def own1 : SK → Bool
  | .ml => true
  | .md => true
  | _ => false
section
variable {K : PySem.W.Frag} {F H : Hp}
theorem own1_at {k : SK} {d : D} {v : V} {fp : List Addr} (hk : own1 k = true) (h : SlotR K F H k (some d) (some v) fp) : ∃ a, v = .ref a ∧ fp = [a] := by
  cases k with
  | ml => obtain ⟨a, xs, ds, e1, e2, ha, r, e3⟩ := h; cases e1; exact ⟨a, rfl, e3⟩
  | md => obtain ⟨a, xs, ds, e1, e2, ha, r, e3⟩ := h; cases e1; exact ⟨a, rfl, e3⟩
  | _ => cases hk
theorem join_set_ne {ρ : Env} {i j : Nat} {o : Option D} (h : j ≠ i) : (ρ.set i o)[j]?.join = ρ[j]?.join := by rw [List.getElem?_set_ne (Ne.symm h)]
theorem join_lt {α : Type} {ρ : List (Option α)} {i : Nat} {d : α} (h : ρ[i]?.join = some d) : i < ρ.length := by
  by_cases hi : i < ρ.length
  · exact hi
  · rw [List.getElem?_eq_none (by omega)] at h; cases h
theorem join_set_self {ρ : Env} {i : Nat} {o : Option D} (h : i < ρ.length) : (ρ.set i o)[i]?.join = o := by rw [List.getElem?_set_self h]; cases o <;> rfl
theorem join_some {α : Type} {σ : List (Option α)} {i : Nat} {v : α} (h : σ[i]? = some (some v)) : σ[i]?.join = some v := by rw [h]; rfl
theorem some_join {α : Type} {σ : List (Option α)} {i : Nat} {v : α} (h : σ[i]?.join = some v) : σ[i]? = some (some v) := by
  cases e : σ[i]? with
  | none => rw [e] at h; cases h
  | some o => rw [e] at h; cases o with
    | none => cases h
    | some u => cases h; rfl
end
section
variable {X : Cx} {C : Cs} {ks : List SK} {k : Nat} {f : Addr} {fd : FuncData} {ps : List Str} {g : List D → Out D} {rm k1 : SK} {p : Option Addr} {G : Hp} {ρ : Env} {σ : Sg} {F H : Hp} {Q : VK} {i : Nat}
theorem sp_callIo {vs : List V} {ds : List D} {d0 : D} {v0 : V} (hk : ks.getD i .im = k1) (hk1 : own1 k1 = true) (hkf : kfb C.io C.kx ks = true) (S : SR X.K C.io ks p G [] ρ σ F H) (hd0 : ρ[i]?.join = some d0) (hv0 : σ[i]? = some (some v0)) (r : RepA X.K F vs ds) (hn : vs.length + 1 = ps.length)
    (q : PostG X.K C p G F (sealAt i (g (d0 :: ds)) ρ) (fun d ρ' F' H' => ∀ v, ROk X.K C.io ks p G ρ' σ rm d F' H' v → Q v H')) : spD X.K C.xt ⟨true, [k1], [k1], rm⟩ ps.length g (v0 :: vs) H Q (fun cls da H' => C.W cls da σ H') := by
  obtain ⟨fp, h1, h2, h3, h4⟩ := id S.st
  have hi := h1 i
  rw [hd0, join_some hv0, hk] at hi
  obtain ⟨a, ea, ef⟩ := own1_at hk1 hi
  subst ea
  rw [ef] at hi
  have gF : ∀ j a, a ∈ fp j → F a = none := fun j a ha => (h4 j a ha).1
  have ai : a ∈ fp i := by rw [ef]; exact List.mem_cons_self
  have nJ : ¬ ∃ j, j ≠ i ∧ a ∈ fp j := fun ⟨j, hj, hb⟩ => hj (h3 j i a hb ai)
  have ga : frm fp (fun j => j ≠ i) G H a = none := by rw [frm_out nJ]; exact (h4 i a ai).2.1
  refine ⟨some a, frm fp (fun j => j ≠ i) G H, d0 :: ds, F, by rw [List.length_cons]; exact hn, ⟨S.same, by simp [r.length], (fun z => nomatch z), (fun b e => by cases e; rfl), frm_gs S.gs, frm_gd gF S.gd, fun j => if j = 0 then [a] else [], fun j => ?_, fun j => ?_, fun j j' b hb hb' => ?_, fun j b hb => ?_⟩, ?_⟩
  · cases j with
    | zero => exact hi
    | succ j =>
      have e : ([k1] : List SK).getD (j + 1) .im = .im := by simp
      rw [e]
      exact slots_im r j
  · dsimp only
    split
    · exact List.nodup_cons.mpr ⟨by simp, List.nodup_nil⟩
    · exact List.nodup_nil
  · dsimp only at hb hb'
    split at hb
    · split at hb'
      · omega
      · cases hb'
    · cases hb
  · dsimp only at hb
    split at hb
    · rw [List.mem_singleton] at hb
      subst hb
      exact ⟨(h4 i b ai).1, ga, by simp⟩
    · cases hb
  · have back : ∀ {F' H' : Hp} {ex : List Addr} {ρ' : Env} {σ' : Sg} {d' : D}, Same F F' → SR X.K true [k1] (some a) (frm fp (fun j => j ≠ i) G H) ex ρ' σ' F' H' → (∀ a ∈ ex, frm fp (fun j => j ≠ i) G H a = none) → ρ'[0]?.join = some d' → SR X.K C.io ks p G ex (ρ.set i (some d')) σ F' H' := by
      intro F' H' ex ρ' σ' d' s S' hx hd'
      obtain ⟨fp', z1, z2, z3, z4⟩ := S'.st
      have e0 := z1 0
      rw [hd', join_some (S'.pin a rfl)] at e0
      have e0' : SlotR X.K F' H' k1 (some d') (some (V.ref a)) (fp' 0) := e0
      obtain ⟨a', ea', ef'⟩ := own1_at hk1 e0'
      cases ea'
      refine frm_back S h1 h2 h3 h4 s S'.same S'.gs S'.gd hx (by rw [List.length_set]) (fun j hj => join_set_ne hj) fun j hj => ?_
      have ej : j = i := Classical.not_not.mp hj
      subst ej
      rw [join_set_self (join_lt hd0), join_some hv0, hk, ef, ← ef']
      exact ⟨e0', fun b hb => ⟨(z4 0 b hb).1, (z4 0 b hb).2.2⟩⟩
    cases hg : g (d0 :: ds) with
    | bad => rw [hg] at q; exact q
    | ok d ρ' =>
      rw [hg] at q
      intro F' H' s σ' v ⟨ex, S', hs, nd, fr⟩
      cases hd' : ρ'[0]?.join with
      | none => simp only [sealAt, hd'] at q; exact q.elim
      | some d' =>
        simp only [sealAt, hd'] at q
        refine q F' H' s v ⟨ex, back s S' (fun a ha => (fr a ha).2) hd', hs, nd, fun b hb => ⟨(fr b hb).1, ?_⟩⟩
        have z := (fr b hb).2
        by_cases hb : ∃ j, j ≠ i ∧ b ∈ fp j
        · obtain ⟨j, _, hb⟩ := hb
          exact (h4 j b hb).2.1
        · rw [frm_out hb] at z; exact z
    | exc c d ρ' =>
      rw [hg] at q
      intro F' H' σ' cls da s S' xr
      cases hd' : ρ'[0]?.join with
      | none => simp only [sealAt, hd'] at q; exact q.elim
      | some d' =>
        simp only [sealAt, hd'] at q
        obtain ⟨F2, s2, S2, _⟩ := SR.kf hkf (back s S' (fun a z => nomatch z) hd')
        obtain ⟨e1, dx, v, e2, e3, r3⟩ := xr
        exact q F2 H' σ cls da (s.trans s2) S2 ⟨e1, dx, v, e2, s2 _ _ e3, r3.up s2⟩
theorem sp_callSc {vs : List V} {ds : List D} {d0 : D} {v0 : V} (hk : ks.getD i .im = .sc) (hkf : kfb C.io C.kx ks = true) (S : SR X.K C.io ks p G [] ρ σ F H) (hd0 : ρ[i]?.join = some d0) (hv0 : σ[i]? = some (some v0)) (r : RepA X.K F vs ds) (hn : vs.length + 1 = ps.length)
    (q : PostG X.K C p G F ((g (d0 :: ds)).seal ρ) (fun d ρ' F' H' => ∀ v, ROk X.K C.io ks p G ρ' σ rm d F' H' v → Q v H')) : spD X.K C.xt ⟨false, [.sc], [.sc], rm⟩ ps.length g (v0 :: vs) H Q (fun cls da H' => C.W cls da σ H') := by
  obtain ⟨fp, h1, h2, h3, h4⟩ := id S.st
  have hi := h1 i
  rw [hd0, join_some hv0, hk] at hi
  have ef : fp i = [] := hi.1
  rw [ef] at hi
  have gF : ∀ j a, a ∈ fp j → F a = none := fun j a ha => (h4 j a ha).1
  refine ⟨none, frm fp (fun _ => True) G H, d0 :: ds, F, by rw [List.length_cons]; exact hn, ⟨S.same, by simp [r.length], fun _ => rfl, (fun a z => nomatch z), frm_gs S.gs, frm_gd gF S.gd, fun _ => [], fun j => ?_, fun _ => List.nodup_nil, (fun _ _ _ z => nomatch z), (fun _ _ z => nomatch z)⟩, ?_⟩
  · cases j with
    | zero => exact hi
    | succ j =>
      have e : ([.sc] : List SK).getD (j + 1) .im = .im := by simp
      rw [e]
      exact slots_im r j
  · have back : ∀ {F' H' : Hp} {ex : List Addr} {ks' : List SK} {ρ' : Env} {σ' : Sg}, Same F F' → SR X.K false ks' none (frm fp (fun _ => True) G H) ex ρ' σ' F' H' → (∀ a ∈ ex, frm fp (fun _ => True) G H a = none) → SR X.K C.io ks p G ex ρ σ F' H' := fun s S' hx =>
      frm_back S h1 h2 h3 h4 s S'.same S'.gs S'.gd hx rfl (fun _ _ => rfl) fun i z => absurd trivial z
    cases hg : g (d0 :: ds) with
    | bad => rw [hg] at q; exact q
    | ok d ρ' =>
      rw [hg] at q
      intro F' H' s σ' v ⟨ex, S', hs, nd, fr⟩
      refine q F' H' s v ⟨ex, back s S' fun a ha => (fr a ha).2, hs, nd, fun a ha => ⟨(fr a ha).1, ?_⟩⟩
      have z := (fr a ha).2
      by_cases hb : ∃ j, True ∧ a ∈ fp j
      · obtain ⟨j, _, hb⟩ := hb
        exact (h4 j a hb).2.1
      · rw [frm_out hb] at z; exact z
    | exc c d ρ' =>
      rw [hg] at q
      intro F' H' σ' cls da s S' xr
      obtain ⟨F2, s2, S2, _⟩ := SR.kf hkf (back s S' (fun a z => nomatch z))
      obtain ⟨e1, dx, v, e2, e3, r3⟩ := xr
      exact q F2 H' σ cls da (s.trans s2) S2 ⟨e1, dx, v, e2, s2 _ _ e3, r3.up s2⟩
variable {x y : Str} {p' py pos : Pos} {e : Expr} {es : List Expr} {fs : Env → Out (List D)}
/-- the first argument is a slot's own thing (or the script) -/
theorem wa_first {o : TG} (hN : X.N[i]? = some y) (hv : Vis X.env.scope y) (hd : (y == ("__debug__" : Str)) = false) (hcd : (y == ("__classdict__" : Str)) = false) {v0 : V} {R : List V → Hp → Prop} (hv0 : σ[i]? = some (some v0)) (h : WA X es σ H fun vs H1 => R (v0 :: vs) H1) : WA X (.Name y py :: es) σ H R :=
  wa_of (pa_cons (pe_var hN hv hd hcd) pa_wa rfl) ⟨v0, hv0, h⟩
theorem e_fn1 (i : Nat) (Fn : FnD X.prog X.w X.K X.mg X.base C.xt k f fd ps ⟨true, [k1], [k1], rm⟩ g) (hk : ks.getD i .im = k1) (hk1 : own1 k1 = true) (hgd : X.A.guards = some []) (hr : Room k X.A) (hb : Binds X.K fd ps []) (tk : Takes X C.W) (hm : X.mg x = some (.ref f)) (hkp : PySem.W.keepIn X.K (.ref f) = true)
    (ha : AOk X C ks es fs) (hlen : ∀ ds, ds.length ≠ ps.length → g ds = .bad) (hkf : kfb C.io C.kx ks = true := by rfl) (hN : X.N[i]? = some y := by rfl) (hv : Vis X.env.scope y := by first | exact Or.inl rfl | exact Or.inr (Or.inl rfl) | exact Or.inr (Or.inr rfl)) (hd : (y == ("__debug__" : Str)) = false := by decide) (hcd : (y == ("__classdict__" : Str)) = false := by decide)
    (hg : Gl X x := by rfl) (hdb : (x == ("__debug__" : Str)) = false := by decide) (he : starEach (.Name y py :: es) X.env = (false, eval (.Name y py) X.env) :: starEach es X.env := by rfl) (hpl : (backTo pos (starEach es X.env)).any (·.1) = false := by rfl) :
    EOk X C ks rm (.Call (.Name x p') (.Name y py :: es) [] pos) (xFn1 i g fs) := fun p G ρ σ F H Q S q => by
  refine we_call (E := fun cls da H' => C.W cls da σ H') Fn hgd hr hb tk (fun _ _ _ z => z) hm hkp hg hdb he hpl ?_
  cases hd0 : ρ[i]?.join with
  | none => simp only [xFn1, hd0] at q; exact q.elim
  | some d0 =>
    simp only [xFn1, hd0] at q
    obtain ⟨v0, hv0, _⟩ := S.slot hd0
    refine wa_first (o := gName 0) hN hv hd hcd hv0 ?_
    refine ha.then S q fun ds ρ1 F1 H1 vs s1 S1 r1 q1 => ?_
    cases hd1 : ρ1[i]?.join with
    | none => rw [hd1] at q1; exact q1.elim
    | some d1 =>
      rw [hd1] at q1
      by_cases hn : (d1 :: ds).length = ps.length
      · exact sp_callIo hk hk1 hkf S1 hd1 hv0 r1 (by rw [r1.length]; simpa using hn) q1
      · simp only [hlen _ hn, sealAt] at q1; exact q1.elim
theorem e_fnS (i : Nat) (Fn : FnD X.prog X.w X.K X.mg X.base C.xt k f fd ps ⟨false, [.sc], [.sc], rm⟩ g) (hk : ks.getD i .im = .sc) (hgd : X.A.guards = some []) (hr : Room k X.A) (hb : Binds X.K fd ps []) (tk : Takes X C.W) (hm : X.mg x = some (.ref f)) (hkp : PySem.W.keepIn X.K (.ref f) = true)
    (ha : AOk X C ks es fs) (hlen : ∀ ds, ds.length ≠ ps.length → g ds = .bad) (hkf : kfb C.io C.kx ks = true := by rfl) (hN : X.N[i]? = some y := by rfl) (hv : Vis X.env.scope y := by first | exact Or.inl rfl | exact Or.inr (Or.inl rfl) | exact Or.inr (Or.inr rfl)) (hd : (y == ("__debug__" : Str)) = false := by decide) (hcd : (y == ("__classdict__" : Str)) = false := by decide)
    (hg : Gl X x := by rfl) (hdb : (x == ("__debug__" : Str)) = false := by decide) (he : starEach (.Name y py :: es) X.env = (false, eval (.Name y py) X.env) :: starEach es X.env := by rfl) (hpl : (backTo pos (starEach es X.env)).any (·.1) = false := by rfl) :
    EOk X C ks rm (.Call (.Name x p') (.Name y py :: es) [] pos) (xFnS i g fs) := fun p G ρ σ F H Q S q => by
  refine we_call (E := fun cls da H' => C.W cls da σ H') Fn hgd hr hb tk (fun _ _ _ z => z) hm hkp hg hdb he hpl ?_
  cases hd0 : ρ[i]?.join with
  | none => simp only [xFnS, hd0] at q; exact q.elim
  | some d0 =>
    simp only [xFnS, hd0] at q
    obtain ⟨v0, hv0, _⟩ := S.slot hd0
    refine wa_first (o := gName 0) hN hv hd hcd hv0 ?_
    refine ha.then S q fun ds ρ1 F1 H1 vs s1 S1 r1 q1 => ?_
    cases hd1 : ρ1[i]?.join with
    | none => rw [hd1] at q1; exact q1.elim
    | some d1 =>
      rw [hd1] at q1
      by_cases hn : (d1 :: ds).length = ps.length
      · exact sp_callSc hk hkf S1 hd1 hv0 r1 (by rw [r1.length]; simpa using hn) q1
      · simp only [hlen _ hn, Out.seal] at q1; exact q1.elim
/-! ### own lists read where they are -/
/-- a list that slot i holds: its own one, or the script -/
def seqK : SK → Bool
  | .ml => true
  | .sc => true
  | _ => false
theorem SR.seq {ex : List Addr} {d : D} (hk : seqK (ks.getD i .im) = true) (S : SR X.K C.io ks p G ex ρ σ F H) (e : ρ[i]?.join = some d) :
    ∃ a xs ds, d = .list ds ∧ σ[i]? = some (some (.ref a)) ∧ SqL X.K H a xs ∧ RepA X.K F xs ds := by
  obtain ⟨v, ev, fp, h⟩ := S.slot e
  cases hki : ks.getD i .im with
  | ml =>
    rw [hki] at h
    obtain ⟨a, xs, ds, e1, e2, ha, r, e3⟩ := h
    cases e1
    exact ⟨a, xs, ds, e2, ev, .inl (.inl ha), r⟩
  | sc =>
    rw [hki] at h
    obtain ⟨_, a, xs, ds, e1, e2, ha, r⟩ := h
    cases e1
    exact ⟨a, xs, ds, e2, ev, S.same.seq ha, r⟩
  | _ => rw [hki] at hk; cases hk
/-- built-in functions of one list with a flat answer -/
def CallS (X : Cx) (fv : Value) (g : List D → Option D) : Prop := ∀ F H a xs ds d (Q : VK), Same F H → SqL X.K H a xs → RepA X.K F xs ds → g ds = some d → (∀ z, Rep X.K F z d → Q z H) → WC X fv [.ref a] H Q
def xCallS (i : Nat) (g : List D → Option D) : Env → Out D := fun ρ => match ρ[i]?.join with
  | some (.list ds) => lift (g ds) ρ
  | _ => .bad
theorem e_callS (i : Nat) {id : String} {g : List D → Option D} (hc : CallS X (.builtin id) g) (hk : seqK (ks.getD i .im) = true) (hm : X.mg x = none) (hv : bootBuiltins x = some (.builtin id)) (hg : Gl X x := by rfl) (hn : x ≠ "__name__" := by decide) (hdb : (x == ("__debug__" : Str)) = false := by decide)
    (hN : X.N[i]? = some y := by rfl) (hvi : Vis X.env.scope y := by first | exact Or.inl rfl | exact Or.inr (Or.inl rfl) | exact Or.inr (Or.inr rfl)) (hd : (y == ("__debug__" : Str)) = false := by decide) (hcd : (y == ("__classdict__" : Str)) = false := by decide) :
    EOk X C ks .im (.Call (.Name x p') [.Name y py] [] pos) (xCallS i g) := fun p G ρ σ F H Q S q => by
  refine we_of (pe_callB wc_c hg hm hv (pa_cons (pe_var hN hvi hd hcd) pa_nil) hn hdb) ?_
  cases hd0 : ρ[i]?.join with
  | none => simp only [xCallS, hd0] at q; exact q.elim
  | some d0 =>
    obtain ⟨a, xs, ds, e1, e2, hs, r⟩ := S.seq hk hd0
    subst e1
    simp only [xCallS, hd0] at q
    obtain ⟨z, e, q2⟩ := post_lift (β := Unit) q
    exact ⟨.ref a, e2, hc F H a xs ds z Q S.same hs r e fun z rz => q2 F H (Same.refl _) z (.of S rz)⟩
def xIxS (i : Nat) (fb : Env → Out D) : Env → Out D := fun ρ => match ρ[i]?.join with
  | none => .bad
  | some _ => (fb ρ).bind fun j ρ1 => match ρ1[i]?.join with
    | none => .bad
    | some d => lift (gIx d j) ρ1
theorem e_ixS (i : Nat) {b : Expr} {fb : Env → Out D} (hk : seqK (ks.getD i .im) = true) (hb : EOk X C ks .im b fb) (hN : X.N[i]? = some y := by rfl) (hvi : Vis X.env.scope y := by first | exact Or.inl rfl | exact Or.inr (Or.inl rfl) | exact Or.inr (Or.inr rfl)) (hd : (y == ("__debug__" : Str)) = false := by decide) (hcd : (y == ("__classdict__" : Str)) = false := by decide)
    (hs : PlainIx b := by intro _ _; rfl) : EOk X C ks .im (.Subscript (.Name y py) b pos) (xIxS i fb) := fun p G ρ σ F H Q S q => by
  refine we_of (pe_ix wix_ix (pe_var hN hvi hd hcd) pe_we hs) ?_
  cases hd0 : ρ[i]?.join with
  | none => simp only [xIxS, hd0] at q; exact q.elim
  | some d0 =>
    simp only [xIxS, hd0] at q
    obtain ⟨v0, hv0, _⟩ := S.slot hd0
    refine ⟨v0, hv0, ?_⟩
    refine hb.then S q fun j ρ1 F1 H1 u s1 S1 r1 q1 => ?_
    cases hd1 : ρ1[i]?.join with
    | none => rw [hd1] at q1; exact q1.elim
    | some d1 =>
      rw [hd1] at q1
      obtain ⟨a, xs, ds, e1, e2, hq, r⟩ := S1.seq hk hd1
      rw [hv0] at e2
      cases e2
      subst e1
      obtain ⟨z, e, q2⟩ := post_lift (β := Unit) q1
      cases r1 with
      | int n =>
        obtain ⟨v, ev, rv⟩ := r.atI e
        exact wix_of ix_list ⟨_, _, n, v, rfl, rfl, hq, ev, q2 F1 H1 (Same.refl _) v (.of S1 rv)⟩
      | _ => cases e
/-! ### an own thing given away -/
def xMove (i : Nat) : Env → Out D := fun ρ => match ρ[i]?.join with
  | some d => .ok d (ρ.set i none)
  | none => .bad
theorem e_move (i : Nat) (hN : X.N[i]? = some y := by rfl) (hvi : Vis X.env.scope y := by first | exact Or.inl rfl | exact Or.inr (Or.inl rfl) | exact Or.inr (Or.inr rfl)) (hd : (y == ("__debug__" : Str)) = false := by decide) (hcd : (y == ("__classdict__" : Str)) = false := by decide) :
    EOk X C ks (ks.getD i .im) (.Name y py) (xMove i) := fun p G ρ σ F H Q S q => by
  refine we_of (pe_var hN hvi hd hcd) ?_
  cases hd0 : ρ[i]?.join with
  | none => simp only [xMove, hd0] at q; exact q.elim
  | some d =>
    simp only [xMove, hd0] at q
    obtain ⟨v0, hv0, _⟩ := S.slot hd0
    obtain ⟨fp, h1, h2, h3, h4⟩ := id S.st
    have hi := h1 i
    rw [hd0, join_some hv0] at hi
    refine ⟨v0, hv0, q F H (Same.refl _) v0 ⟨fp i, ⟨S.same, by rw [List.length_set]; exact S.len, S.pio, S.pin, S.gs, S.gd, fun j => if j = i then [] else fp j, fun j => ?_, fun j => ?_, fun j j' a ha ha' => ?_, fun j a ha => ?_⟩, hi, h2 i, fun a ha => ⟨(h4 i a ha).1, (h4 i a ha).2.1⟩⟩⟩
    · dsimp only
      split
      · rename_i e
        subst e
        rw [join_set_self (join_lt hd0)]
        exact SlotR.none'
      · rename_i e
        rw [join_set_ne e]
        exact h1 j
    · dsimp only
      split
      · exact List.nodup_nil
      · exact h2 j
    · dsimp only at ha ha'
      split at ha
      · cases ha
      · split at ha'
        · cases ha'
        · exact h3 j j' a ha ha'
    · dsimp only at ha
      split at ha
      · cases ha
      · rename_i e
        exact ⟨(h4 j a ha).1, (h4 j a ha).2.1, fun z => e (h3 j i a ha z)⟩
end
end De
set_option maxHeartbeats 4000000
/-! De7: statements. -/
namespace De
open PySem PySem.Spec L2
section
variable {X : Cx} {C : Cs} {ks km ke : List SK} {k : SK} {e a b c : Expr} {es : List Expr} {st : Stmt} {sts rest : List Stmt} {f fa fb : Env → Out D} {pos : Pos} {p : Option Addr} {G : Hp} {ρ : Env} {σ : Sg} {F H : Hp}
theorem getD_set {ks : List SK} {i j : Nat} {k : SK} (hi : i < ks.length) : (ks.set i k).getD j .im = if j = i then k else ks.getD j .im := by
  rw [List.getD_eq_getElem?_getD, List.getD_eq_getElem?_getD]
  by_cases h : j = i
  · subst h
    rw [if_pos rfl, List.getElem?_set_self hi]; rfl
  · rw [if_neg h, List.getElem?_set_ne (Ne.symm h)]
/-- a name is stored -/
theorem SR.store {d : D} {v : V} {i : Nat} (hi : i < ks.length) (h0 : (C.io && decide (i = 0)) = false) (r : ROk X.K C.io ks p G ρ σ k d F H v) : SR X.K C.io (ks.set i k) p G [] (ρ.set i (some d)) (σ.set i (some v)) F H := by
  obtain ⟨ex, S, hs, nd, fr⟩ := r
  obtain ⟨fp, h1, h2, h3, h4⟩ := id S.st
  refine ⟨S.same, by rw [List.length_set, List.length_set]; exact S.len, S.pio, fun a ha => ?_, S.gs, S.gd, fun j => if j = i then (if i < ρ.length then ex else []) else fp j, fun j => ?_, fun j => ?_, fun j j' b hb hb' => ?_, fun j b hb => ?_⟩
  · have hne : 0 ≠ i := fun z => by
      subst z
      have hio : C.io = false := by simpa using h0
      rw [S.pio hio] at ha; cases ha
    rw [List.getElem?_set_ne (Ne.symm hne)]
    exact S.pin a ha
  · rw [getD_set hi]
    by_cases h : j = i
    · subst h
      simp only [if_true]
      by_cases hl : j < ρ.length
      · rw [if_pos hl, join_set_self hl, List.getElem?_set_self (by rw [← S.len]; exact hl)]
        exact hs
      · rw [if_neg hl, List.getElem?_eq_none (by rw [List.length_set]; omega)]
        exact SlotR.none'
    · rw [if_neg h]
      dsimp only
      rw [if_neg h, join_set_ne h, List.getElem?_set_ne (Ne.symm h)]
      exact h1 j
  · dsimp only
    split
    · split
      · exact nd
      · exact List.nodup_nil
    · exact h2 j
  · dsimp only at hb hb'
    have hx : ∀ {m : Nat} {b : Addr}, b ∈ (if i < ρ.length then ex else []) → b ∉ fp m := fun hb z => by
      split at hb
      · exact (h4 _ _ z).2.2 hb
      · cases hb
    split at hb
    · split at hb'
      · omega
      · exact absurd hb' (hx hb)
    · split at hb'
      · exact absurd hb (hx hb')
      · exact h3 j j' b hb hb'
  · dsimp only at hb
    split at hb
    · split at hb
      · exact ⟨(fr b hb).1, (fr b hb).2, by simp⟩
      · cases hb
    · exact ⟨(h4 j b hb).1, (h4 j b hb).2.1, by simp⟩
/-- an own list is written -/
theorem SR.write {i : Nat} {d0 : D} {q : Addr} {xs : List V} {ds : List D} (hk : ks.getD i .im = .ml) (S : SR X.K C.io ks p G [] ρ σ F H) (hd : ρ[i]?.join = some d0) (hv : σ[i]? = some (some (.ref q))) (r : RepA X.K F xs ds) :
    SR X.K C.io ks p G [] (ρ.set i (some (.list ds))) σ F (upd H q (.lst xs)) := by
  obtain ⟨fp, h1, h2, h3, h4⟩ := id S.st
  have hi := h1 i
  rw [hd, join_some hv, hk] at hi
  obtain ⟨q', xs0, ds0, e1, e2, hq, r0, ef⟩ := hi
  cases e1
  have qi : q ∈ fp i := by rw [ef]; exact List.mem_cons_self
  have up : ∀ b, b ≠ q → upd H q (.lst xs) b = H b := fun b hb => upd_ne hb
  refine ⟨fun b o z => ?_, by rw [List.length_set]; exact S.len, S.pio, S.pin, fun b o z => ?_, S.gd, fp, fun j => ?_, h2, h3, h4⟩
  · rw [up b fun z' => by rw [z', (h4 i q qi).1] at z; cases z]; exact S.same b o z
  · rw [up b fun z' => by rw [z', (h4 i q qi).2.1] at z; cases z]; exact S.gs b o z
  · by_cases h : j = i
    · subst h
      rw [join_set_self (join_lt hd), join_some hv, hk, ef]
      exact ⟨q, xs, ds, rfl, rfl, upd_same, r, rfl⟩
    · rw [join_set_ne h]
      exact (h1 j).up (Same.refl _) fun b hb => up b fun z => h (h3 j i q (z ▸ hb) qi)
theorem SR.ownL {i : Nat} {d : D} (hk : ks.getD i .im = .ml) (S : SR X.K C.io ks p G [] ρ σ F H) (e : ρ[i]?.join = some d) : ∃ q xs ds, d = .list ds ∧ σ[i]? = some (some (.ref q)) ∧ H q = some (.lst xs) ∧ RepA X.K F xs ds := by
  obtain ⟨v, ev, fp, h⟩ := S.slot e
  rw [hk] at h
  obtain ⟨q, xs, ds, e1, e2, hq, r, _⟩ := h
  cases e1
  exact ⟨q, xs, ds, e2, ev, hq, r⟩
/-! ### small statements -/
def yDrop (f : Env → Out D) : Env → Out SO := fun ρ => (f ρ).bind fun _ ρ1 => .ok .nx ρ1
theorem s_expr (h : EOk X C ks k e f) (hs : swapsWith e none pos.line X.env = pure false := by rfl) : SOk X C ks ks (.Expr e pos) (yDrop f) := fun p G ρ σ F H Dn S q =>
  ws_of (ps_expr pe_we hs) (h p G ρ σ F H _ S (q.bind.imp fun d ρ1 F1 H1 s q1 v r => q1 F1 H1 (Same.refl _) σ r.sr))
theorem s_pass : SOk X C ks ks (.Pass pos) (fun ρ => .ok .nx ρ) := fun p G ρ σ F H Dn S q => ws_of ps_pass (show Dn.nx σ H from q F H (Same.refl _) σ S)
def ySet (i : Nat) (f : Env → Out D) : Env → Out SO := fun ρ => (f ρ).bind fun d ρ1 => .ok .nx (ρ1.set i (some d))
theorem s_set (i : Nat) {x : Str} {pos' : Pos} (hN : X.N.Nodup) (h : EOk X C ks k e f) (hi : X.N[i]? = some x := by rfl) (hx : Loc X.env.scope x := by first | exact Or.inl rfl | exact Or.inr rfl) (hlt : i < ks.length := by decide) (h0 : (C.io && decide (i = 0)) = false := by rfl)
    (hs : swapsWith e (some (.Name x pos')) pos.line X.env = pure false := by rfl) (hf : X.fn x = true ∨ X.env.scope.names.lookup x = some .local := by first | exact .inl rfl | exact .inr rfl) : SOk X C ks (ks.set i k) (.Assign [.Name x pos'] e pos) (ySet i f) := fun p G ρ σ F H Dn S q => by
  refine ws_of (ps_set hN hi hx pe_we hs hf) ?_
  exact h p G ρ σ F H _ S (q.bind.imp fun d ρ1 F1 H1 s q1 v r => q1 F1 H1 (Same.refl _) _ (SR.store hlt h0 r))
theorem ROk.kf {d : D} {v : V} (hkf : kfb C.io C.kx ks = true) (r : ROk X.K C.io ks p G ρ σ k d F H v) : ∃ F', Same F F' ∧ ROk X.K C.io C.kx p G ρ σ k d F' H v := by
  obtain ⟨ex, S, hs, nd, fr⟩ := r
  obtain ⟨F', s, S', hx⟩ := SR.kf hkf S
  exact ⟨F', s, ex, S', hs.up s fun _ _ => rfl, nd, fun a ha => ⟨hx a ha (fr a ha).1, (fr a ha).2⟩⟩
def yRet (f : Env → Out D) : Env → Out SO := fun ρ => (f ρ).bind fun d ρ1 => .ok (.ret d) ρ1
theorem s_ret (h : EOk X C ks C.rm e f) (hkf : kfb C.io C.kx ks = true := by rfl) : SOk X C ks ke (.Return (some e) pos) (yRet f) := fun p G ρ σ F H Dn S q => by
  refine ws_of (ps_ret pe_we) ?_
  refine h p G ρ σ F H _ S (q.bind.imp2 fun d ρ1 F1 H1 s q1 v r => ?_)
  obtain ⟨F2, s2, r2⟩ := r.kf hkf
  exact q1 F1 (Same.refl _) F2 H1 s2 σ v r2
def yIf (t : Env → Out Bool) (u w : Env → Out SO) : Env → Out SO := xIf t u w
theorem s_if {t : Env → Out Bool} {u w : Env → Out SO} {bd oe : List Stmt} (hc : TOk X C ks c t) (ha : SsOk X C ks ke bd u) (hb : SsOk X C ks ke oe w) : SOk X C ks ke (.If c bd oe pos) (yIf t u w) := fun p G ρ σ F H Dn S q => by
  refine ws_of (ps_if pt_wt pss_wss pss_wss) ?_
  refine hc.then S q fun d ρ1 F1 H1 s1 S1 q1 => ?_
  cases d with
  | true => exact ha p G ρ1 σ F1 H1 Dn S1 q1
  | false => exact hb p G ρ1 σ F1 H1 Dn S1 q1
/-! ### blocks -/
def ySeq (u w : Env → Out SO) : Env → Out SO := fun ρ => (u ρ).bind fun so ρ1 => match so with
  | .nx => w ρ1
  | .ret d => .ok (.ret d) ρ1
def yNil : Env → Out SO := fun ρ => .ok .nx ρ
theorem ss_nil : SsOk X C ks ks [] yNil := fun p G ρ σ F H Dn S q => wss_of pss_nil (show Dn.nx σ H from q F H (Same.refl _) σ S)
theorem ss_cons {u w : Env → Out SO} (h1 : SOk X C ks km st u) (h2 : SsOk X C km ke rest w) : SsOk X C ks ke (st :: rest) (ySeq u w) := fun p G ρ σ F H Dn S q => by
  refine wss_of (pss_cons ps_ws pss_wss) ?_
  refine h1 p G ρ σ F H { Dn with nx := WSs X rest Dn } S (q.bind.imp fun so ρ1 F1 H1 s q1 => ?_)
  cases so with
  | nx => exact fun σ1 S1 => h2 p G ρ1 σ1 F1 H1 Dn S1 q1
  | ret d => exact q1 F1 H1 (Same.refl _)
theorem ss_one {u : Env → Out SO} (h1 : SOk X C ks ke st u) : SsOk X C ks ke [st] u := fun p G ρ σ F H Dn S q => wss_of (pss_one ps_ws) (h1 p G ρ σ F H Dn S q)
/-- an own thing is data from here on -/
theorem ss_freeze (i : Nat) {u : Env → Out SO} (h : SsOk X C (ks.set i .im) ke sts u) (hlt : i < ks.length := by decide) (hns : ks.getD i .im ≠ .sc := by decide) : SsOk X C ks ke sts u := fun p G ρ σ F H Dn S q => by
  obtain ⟨F', s, S', _⟩ := S.freeze (ks' := ks.set i .im) (fun j => decide (j = i)) (fun j => by rw [getD_set hlt]; simp) (fun j hj => by
    have e : j = i := of_decide_eq_true hj
    subst e; exact hns)
  exact h p G ρ σ F' H Dn S' (q.mono s)
/-! ### targets -/
def GOk (X : Cx) (C : Cs) (ks ke : List SK) (tg : Expr) (h : D → Env → Out Unit) : Prop :=
  ∀ p G ρ σ F H v d Q, SR X.K C.io ks p G [] ρ σ F H → Rep X.K F v d → PostG X.K C p G F (h d ρ) (fun _ ρ' F' H' => ∀ σ', SR X.K C.io ke p G [] ρ' σ' F' H' → Q σ' H') → WG X tg v σ H Q
structure WGs (X : Cx) (ts : List Expr) (vs : List V) (σ : Sg) (H : Hp) (Q : Sg → Hp → Prop) : Prop where
  run : ∀ pins s us, Inv X pins σ H s → Vals vs us → wpAny (model X.prog X.w) X.A (assignInOrder ((assignEach ts X.env).map (·.2)) us) (fun _ s' => ∃ σ' H', Inv X pins σ' H' s' ∧ Q σ' H') X.xe s
theorem pgs_wgs {ts : List Expr} : PGs X ts (WGs X ts) := ⟨fun pins s σ H vs us Q I r h => h.run pins s us I r⟩
theorem wgs_of {ts : List Expr} {t : TGs} {vs : List V} {Q : Sg → Hp → Prop} (h : PGs X ts t) (q : t vs σ H Q) : WGs X ts vs σ H Q := ⟨fun pins s us I r => h.run pins s σ H vs us Q I r q⟩
def GsOk (X : Cx) (C : Cs) (ks ke : List SK) (ts : List Expr) (h : List D → Env → Out Unit) : Prop :=
  ∀ p G ρ σ F H vs ds Q, SR X.K C.io ks p G [] ρ σ F H → RepA X.K F vs ds → PostG X.K C p G F (h ds ρ) (fun _ ρ' F' H' => ∀ σ', SR X.K C.io ke p G [] ρ' σ' F' H' → Q σ' H') → WGs X ts vs σ H Q
def zName (i : Nat) : D → Env → Out Unit := fun d ρ => .ok () (ρ.set i (some d))
theorem g_name (i : Nat) {x : Str} (hN : X.N.Nodup) (hi : X.N[i]? = some x := by rfl) (hx : Loc X.env.scope x := by first | exact Or.inl rfl | exact Or.inr rfl) (hlt : i < ks.length := by decide) (h0 : (C.io && decide (i = 0)) = false := by rfl)
    (hf : X.fn x = true ∨ X.env.scope.names.lookup x = some .local := by first | exact .inl rfl | exact .inr rfl) : GOk X C ks (ks.set i .im) (.Name x pos) (zName i) := fun p G ρ σ F H v d Q S r q =>
  wg_of (pg_name hN hi hx hf) (show Q (σ.set i (some v)) H from q F H (Same.refl _) _ (SR.store hlt h0 (.of S r)))
def zNil : List D → Env → Out Unit := fun ds ρ => match ds with
  | [] => .ok () ρ
  | _ => .bad
def zCons (h : D → Env → Out Unit) (hs : List D → Env → Out Unit) : List D → Env → Out Unit := fun ds ρ => match ds with
  | [] => .bad
  | d :: ds => (h d ρ).bind fun _ ρ1 => hs ds ρ1
theorem gs_nil : GsOk X C ks ks [] zNil := fun p G ρ σ F H vs ds Q S r q => by
  cases r with
  | nil => exact wgs_of pgs_nil ⟨rfl, q F H (Same.refl _) σ S⟩
  | cons _ _ => exact q.elim
theorem gs_cons {ts : List Expr} {h : D → Env → Out Unit} {hs : List D → Env → Out Unit} (h1 : GOk X C ks km e h) (h2 : GsOk X C km ke ts hs) (hst : (assignEach (e :: ts) X.env).map (·.2) = assign e X.env :: (assignEach ts X.env).map (·.2) := by rfl) :
    GsOk X C ks ke (e :: ts) (zCons h hs) := fun p G ρ σ F H vs ds Q S r q => by
  cases r with
  | nil => exact q.elim
  | cons r1 r2 =>
    refine wgs_of (pgs_cons pg_wg pgs_wgs hst) ⟨_, _, rfl, ?_⟩
    refine h1 p G ρ σ F H _ _ _ S r1 (q.bind.imp fun _ ρ1 F1 H1 s q1 σ1 S1 => ?_)
    exact h2 p G ρ1 σ1 F1 H1 _ _ Q S1 (r2.up s) q1
def zTup (n : Nat) (hs : List D → Env → Out Unit) : D → Env → Out Unit := fun d ρ => match d with
  | .tuple ds => if ds.length = n then hs ds ρ else .bad
  | _ => .bad
theorem g_tup (n : Nat) {ts : List Expr} {kx : Nat} {hs : List D → Env → Out Unit} (hc : X.calm = true) (h : GsOk X C ks ke ts hs) (hn : (assignEach ts X.env).length = n := by rfl) (hst : (assignEach ts X.env).findIdx? (·.1) = none := by rfl) :
    GOk X C ks ke (.Tuple ts kx pos) (zTup n hs) := fun p G ρ σ F H v d Q S r q => by
  refine wg_of (pg_tup hc pgs_wgs hn hst) ?_
  cases r with
  | tup h1 r1 =>
    simp only [zTup] at q
    split at q
    · rename_i hl
      exact ⟨_, _, rfl, Same.sqT S.same h1, r1.length.trans hl, h p G ρ σ F H _ _ Q S r1 q⟩
    · exact q.elim
  | _ => exact q.elim
/-- x[i] = .. of an own list -/
def zIx (i : Nat) (f : Env → Out D) : D → Env → Out Unit := fun d ρ => match ρ[i]?.join with
  | none => .bad
  | some _ => (f ρ).bind fun j ρ1 => match ρ1[i]?.join, j with
    | some (.list ds), .int n => (match ixN ds.length n with
      | some m => .ok () (ρ1.set i (some (.list (ds.set m d))))
      | none => .bad)
    | _, _ => .bad
theorem g_ix (i : Nat) {x : Str} {px : Pos} (hk : ks.getD i .im = .ml) (h : EOk X C ks .im e f) (hN : X.N[i]? = some x := by rfl) (hv : Vis X.env.scope x := by first | exact Or.inl rfl | exact Or.inr (Or.inl rfl) | exact Or.inr (Or.inr rfl))
    (hd : (x == ("__debug__" : Str)) = false := by decide) (hcd : (x == ("__classdict__" : Str)) = false := by decide) (ha : ∀ v, assign (.Subscript (.Name x px) e pos) X.env v = (do
      let ov ← holding [v] (eval (.Name x px) X.env)
      let iv ← holding [v, ov] (eval e X.env)
      standAt pos
      holding [v, ov, iv] (setItem ov iv v)
      release [v, ov, iv] []) := by intro _; rfl) : GOk X C ks ks (.Subscript (.Name x px) e pos) (zIx i f) := fun p G ρ σ F H v d Q S r q => by
  refine wg_of (pg_sub (pe_var hN hv hd hcd) pe_we set_list ha) ?_
  cases hd0 : ρ[i]?.join with
  | none => simp only [zIx, hd0] at q; exact q.elim
  | some d0 =>
    simp only [zIx, hd0] at q
    obtain ⟨v0, hv0, _⟩ := S.slot hd0
    refine ⟨v0, hv0, ?_⟩
    refine h.then S q fun j ρ1 F1 H1 u s1 S1 r1 q1 => ?_
    cases hd1 : ρ1[i]?.join with
    | none => rw [hd1] at q1; exact q1.elim
    | some d1 =>
      obtain ⟨a, xs, ds, e1, e2, hq, r2⟩ := S1.ownL hk hd1
      rw [hv0] at e2
      cases e2
      subst e1
      rw [hd1] at q1
      cases r1 with
      | int n =>
        dsimp only at q1
        cases hm : ixN ds.length n with
        | none => rw [hm] at q1; exact q1.elim
        | some m =>
          rw [hm] at q1
          exact ⟨a, xs, n, m, rfl, rfl, hq, by rw [r2.length]; exact hm, q1 F1 _ (Same.refl _) σ (SR.write hk S1 hd1 hv0 ((r2.set (r.up s1) m)))⟩
      | _ => exact q1.elim
def yAsg (f : Env → Out D) (h : D → Env → Out Unit) : Env → Out SO := fun ρ => (f ρ).bind fun d ρ1 => (h d ρ1).bind fun _ ρ2 => .ok .nx ρ2
theorem s_asg {tg : Expr} {h : D → Env → Out Unit} (he : EOk X C ks .im e f) (hg : GOk X C ks ke tg h) (hs : swapsWithSole [tg] e pos.line X.env = pure false := by rfl) (hw : swappedStores [tg] e X.env = pure none := by rfl)
    (h1 : (assignEach [tg] X.env).map (·.2) = [assign tg X.env] := by rfl) : SOk X C ks ke (.Assign [tg] e pos) (yAsg f h) := fun p G ρ σ F H Dn S q => by
  refine ws_of (ps_asg pe_we pg_wg hs hw h1) ?_
  refine he.then S q fun d ρ1 F1 H1 v s1 S1 r1 q1 => ?_
  exact hg p G ρ1 σ F1 H1 v d _ S1 r1 (q1.bind.imp fun _ ρ2 F2 H2 s q2 σ2 S2 => q2 F2 H2 (Same.refl _) σ2 S2)
/-! ### an own list grown, popped -/
def yApp (i : Nat) (f : Env → Out D) : Env → Out SO := fun ρ => match ρ[i]?.join with
  | none => .bad
  | some _ => (f ρ).bind fun d ρ1 => match ρ1[i]?.join with
    | some (.list ds) => if ds.length < sizeLine then .ok .nx (ρ1.set i (some (.list (ds ++ [d])))) else .bad
    | _ => .bad
section
variable {x : Str} {px apos cpos : Pos} {i : Nat}
theorem s_app (i : Nat) (hk : ks.getD i .im = .ml) (h : EOk X C ks .im e f) (hN : X.N[i]? = some x := by rfl) (hv : Vis X.env.scope x := by first | exact Or.inl rfl | exact Or.inr (Or.inl rfl) | exact Or.inr (Or.inr rfl)) (hd : (x == ("__debug__" : Str)) = false := by decide) (hcd : (x == ("__classdict__" : Str)) = false := by decide)
    (hb : attributeBase (.Name x px) "append" X.env (eval (.Name x px) X.env) = eval (.Name x px) X.env := by rfl)
    (h2 : (((((backTo cpos (starEach [e] X.env)).all fun x => !x.fst) && (backToKw cpos (keywordEach [] X.env)).all fun x => x.fst.isSome) && decide (([e].length + ([] : List Keyword).length + if ([] : List Keyword).isEmpty = true then 0 else 1) < 30)) = true) := by rfl)
    (hl : (apos.endLine == cpos.line) = true := by rfl) (hs : starEach [e] X.env = (false, eval e X.env) :: starEach [] X.env := by rfl) (hpl : (backTo cpos (starEach [] X.env)).any (·.1) = false := by rfl)
    (hsw : swapsWith (.Call (.Attribute (.Name x px) "append" apos) [e] [] cpos) none pos.line X.env = pure false := by rfl) : SOk X C ks ks (.Expr (.Call (.Attribute (.Name x px) "append" apos) [e] [] cpos) pos) (yApp i f) := fun p G ρ σ F H Dn S q => by
  refine ws_of (ps_expr (pe_bm PySem.F.plainAttrs_list PySem.F.slot_list_append PySem.F.type_list_append mt_append (pe_var hN hv hd hcd) (pa_cons pe_we pa_nil hs) hb h2 hl hs hpl) hsw) ?_
  cases hd0 : ρ[i]?.join with
  | none => simp only [yApp, hd0] at q; exact q.elim
  | some d0 =>
    obtain ⟨a0, xs0, ds0, e0, hv0, hq0, r0⟩ := S.ownL hk hd0
    simp only [yApp, hd0] at q
    refine ⟨.ref a0, hv0, .inl ⟨rfl, _, .inl (.inl hq0)⟩, ?_⟩
    refine h.then S q fun d ρ1 F1 H1 u s1 S1 r1 q1 => ?_
    cases hd1 : ρ1[i]?.join with
    | none => rw [hd1] at q1; exact q1.elim
    | some d1 =>
      obtain ⟨a, xs, ds, e1, e2, hq, r2⟩ := S1.ownL hk hd1
      rw [hv0] at e2
      cases e2
      subst e1
      rw [hd1] at q1
      dsimp only at q1
      split at q1
      · rename_i hz
        exact ⟨a0, xs, u, rfl, rfl, hq, by rw [r2.length]; exact hz, q1 F1 _ (Same.refl _) σ (SR.write hk S1 hd1 hv0 (r2.append (.cons r1 .nil)))⟩
      · exact q1.elim
def xPop (i : Nat) : Env → Out D := fun ρ => match ρ[i]?.join with
  | some (.list ds) => (match ds[ds.length - 1]? with
    | some d => .ok d (ρ.set i (some (.list ds.dropLast)))
    | none => .bad)
  | _ => .bad
theorem e_pop (i : Nat) (hk : ks.getD i .im = .ml) (hN : X.N[i]? = some x := by rfl) (hv : Vis X.env.scope x := by first | exact Or.inl rfl | exact Or.inr (Or.inl rfl) | exact Or.inr (Or.inr rfl)) (hd : (x == ("__debug__" : Str)) = false := by decide) (hcd : (x == ("__classdict__" : Str)) = false := by decide)
    (hb : attributeBase (.Name x px) "pop" X.env (eval (.Name x px) X.env) = eval (.Name x px) X.env := by rfl) (hl : (apos.endLine == cpos.line) = true := by rfl) : EOk X C ks .im (.Call (.Attribute (.Name x px) "pop" apos) [] [] cpos) (xPop i) := fun p G ρ σ F H Q S q => by
  refine we_of (pe_bm0 PySem.F.plainAttrs_list PySem.F.slot_list_pop PySem.F.type_list_pop mt_pop (pe_var hN hv hd hcd) hb hl) ?_
  cases hd0 : ρ[i]?.join with
  | none => simp only [xPop, hd0] at q; exact q.elim
  | some d0 =>
    obtain ⟨a0, xs0, ds0, e0, hv0, hq0, r0⟩ := S.ownL hk hd0
    subst e0
    simp only [xPop, hd0] at q
    cases hl : ds0[ds0.length - 1]? with
    | none => rw [hl] at q; exact q.elim
    | some d =>
      rw [hl] at q
      obtain ⟨v, ev, rv⟩ := r0.get hl
      refine ⟨.ref a0, hv0, .inl ⟨rfl, _, .inl (.inl hq0)⟩, a0, xs0, v, rfl, rfl, hq0, by rw [r0.length]; exact ev, q F _ (Same.refl _) v (.of (SR.write hk S hd0 hv0 r0.dropLast) rv)⟩
end
end
end De
set_option maxHeartbeats 4000000
/-! De8: while, for, comprehensions. -/
namespace De
open PySem PySem.Spec L2
section
variable {X : Cx} {C : Cs} {ks km ke : List SK} {k : SK} {e a b c : Expr} {es : List Expr} {st : Stmt} {sts rest bd : List Stmt} {f fa fb : Env → Out D} {pos : Pos} {p : Option Addr} {G : Hp} {ρ : Env} {σ : Sg} {F H : Hp}
/-! ### while -/
def whileD (t : Env → Out Bool) (u : Env → Out SO) : Nat → Env → Out SO
  | 0, _ => .bad
  | n + 1, ρ => (t ρ).bind fun b ρ1 => if b then (u ρ1).bind fun so ρ2 => match so with
      | .nx => whileD t u n ρ2
      | .ret d => .ok (.ret d) ρ2
    else .ok .nx ρ1
theorem s_while (n : Nat) {t : Env → Out Bool} {u : Env → Out SO} (hp : PassesOwn (model X.prog X.w) X.A X.env X.xe) (hc : TOk X C ks c t) (hb : SsOk X C ks ks bd u) : SOk X C ks ks (.While c bd [] pos) (whileD t u n) := fun p G ρ σ F H Dn S q => by
  refine ws_of (ps_while hp pt_wt pss_wss) ?_
  refine ⟨fun m σ H => ∃ ρ F, SR X.K C.io ks p G [] ρ σ F H ∧ PostG X.K C p G F (whileD t u m ρ) (RS X C ks p G Dn), ⟨n, ρ, F, S, q⟩, ?_⟩
  rintro m σ H ⟨ρ, F, S, q⟩
  cases m with
  | zero => exact q.elim
  | succ m =>
    refine hc.then S q fun b ρ1 F1 H1 s1 S1 q1 => ?_
    cases b with
    | false =>
      rw [if_neg Bool.false_ne_true]
      exact q1 F1 H1 (Same.refl _) σ S1
    | true =>
      rw [if_pos rfl]
      refine ⟨fun σ' H' => ∃ ρ F, SR X.K C.io ks p G [] ρ σ' F H' ∧ PostG X.K C p G F (whileD t u m ρ) (RS X C ks p G Dn), fun σ' H' z => ⟨m, Nat.lt_succ_self m, z⟩, ?_⟩
      refine hb p G ρ1 σ F1 H1 _ S1 (q1.bind.imp fun so ρ2 F2 H2 s2 q2 => ?_)
      cases so with
      | nx => exact fun σ2 S2 => ⟨ρ2, F2, S2, q2⟩
      | ret d => exact q2 F2 H2 (Same.refl _)
/-! ### what is walked -/
structure ItD (K : PySem.W.Frag) (F0 : Hp) (J : It) (ds : List D) : Prop where
  go : ∀ i F H, Same F0 F → Same F H → i < ds.length → J.go i H
  stop : ∀ i F H, Same F0 F → Same F H → i = ds.length → J.stop i H
  yld : ∀ i F H x H' d, Same F0 F → Same F H → ds[i]? = some d → J.yld i H x H' → ∃ F', Grow F H F' H' ∧ Rep K F' x d
structure WI (X : Cx) (tg iter : Expr) (σ : Sg) (H : Hp) (R : It → Hp → Prop) : Prop where
  run : ∀ pins s, Inv X pins σ H s → wpAny (model X.prog X.w) X.A (eval iter X.env) (fun v s1 => wpAny (model X.prog X.w) X.A (pyIter v) (PIE X pins σ tg R) X.xe s1) X.xe s
theorem pi_wi {tg iter : Expr} : PI X tg iter (WI X tg iter) := ⟨fun pins s σ H R I h => h.run pins s I⟩
theorem wi_of {tg iter : Expr} {t : TI} {R : It → Hp → Prop} (h : PI X tg iter t) (q : t σ H R) : WI X tg iter σ H R := ⟨fun pins s I => h.run pins s σ H R I q⟩
def IOk (X : Cx) (C : Cs) (ks : List SK) (tg iter : Expr) (f : Env → Out (List D)) : Prop :=
  ∀ p G ρ σ F H R, SR X.K C.io ks p G [] ρ σ F H → PostG X.K C p G F (f ρ) (fun ds ρ' F' H' => ∀ J, SR X.K C.io ks p G [] ρ' σ F' H' → ItD X.K F' J ds → R J H') → WI X tg iter σ H R
theorem it_list {K : PySem.W.Frag} {q : Addr} {xs : List V} {ds : List D} (h : F q = some (.lst xs)) (r : RepA K F xs ds) : ItD K F (Itl K q) ds where
  go := fun i F1 H1 s s' hi => by
    obtain ⟨v, ev, _⟩ := r.get (List.getElem?_eq_getElem hi)
    exact ⟨xs, v, .inl (.inl (s' _ _ (s _ _ h))), ev⟩
  stop := fun i F1 H1 s s' hi => ⟨xs, .inl (.inl (s' _ _ (s _ _ h))), by rw [r.length]; omega⟩
  yld := fun i F1 H1 x H' d s s' hd y => by
    obtain ⟨e, y⟩ := y
    subst e
    obtain ⟨v, ev, rv⟩ := r.get hd
    have := y xs (.inl (.inl (s' _ _ (s _ _ h))))
    rw [ev] at this
    cases this
    exact ⟨F1, Grow.refl s', rv.up s⟩
theorem it_tup {K : PySem.W.Frag} {q : Addr} {xs : List V} {ds : List D} (h : SqT K F q xs) (r : RepA K F xs ds) : ItD K F (Itt K q) ds where
  go := fun i F1 H1 s s' hi => by
    obtain ⟨v, ev, _⟩ := r.get (List.getElem?_eq_getElem hi)
    exact ⟨xs, v, Same.sqT (s.trans s') h, ev⟩
  stop := fun i F1 H1 s s' hi => ⟨xs, Same.sqT (s.trans s') h, by rw [r.length]; omega⟩
  yld := fun i F1 H1 x H' d s s' hd y => by
    obtain ⟨e, y⟩ := y
    subst e
    obtain ⟨v, ev, rv⟩ := r.get hd
    have := y xs (Same.sqT (s.trans s') h)
    rw [ev] at this
    cases this
    exact ⟨F1, Grow.refl s', rv.up s⟩
def signs (x : Str) : List D := x.cps.toList.map fun c => .str ⟨#[c]⟩
theorem it_str {K : PySem.W.Frag} {x : Str} : ItD K F (Its x) (signs x) where
  go := fun i F1 H1 s s' hi => by
    show i < x.cps.size
    simpa [signs] using hi
  stop := fun i F1 H1 s s' hi => by
    show x.cps.size ≤ i
    rw [hi]
    simp [signs]
  yld := fun i F1 H1 v H' d s s' hd y => by
    obtain ⟨e, c, hc, ev⟩ := y
    subst e ev
    have : d = .str ⟨#[c]⟩ := by
      unfold signs at hd
      rw [List.getElem?_map, Array.getElem?_toList, hc] at hd
      cases hd; rfl
    subst this
    exact ⟨F1, Grow.refl s', .str _⟩
def intsD (lo : Int) (n : Nat) : List D := (List.range n).map fun i => .int (lo + (i : Nat))
theorem it_rng {K : PySem.W.Frag} {lo : Int} {n : Nat} : ItD K F (Itr lo n) (intsD lo n) where
  go := fun i F1 H1 s s' hi => by
    show i < n
    simpa [intsD] using hi
  stop := fun i F1 H1 s s' hi => by
    show n ≤ i
    rw [hi]
    simp [intsD]
  yld := fun i F1 H1 v H' d s s' hd y => by
    obtain ⟨e, ev⟩ := y
    subst e ev
    have hi : i < n := by
      have := List.getElem?_eq_some_iff.mp hd
      obtain ⟨h1, _⟩ := this
      simpa [intsD] using h1
    have : d = .int (lo + (i : Nat)) := by
      unfold intsD at hd
      rw [List.getElem?_map, List.getElem?_range hi] at hd
      cases hd; rfl
    subst this
    exact ⟨F1, Grow.refl s', .int _⟩
/-- a list, a tuple, a text -/
def itemsD : D → Option (List D)
  | .list ds => some ds
  | .tuple ds => some ds
  | .str x => some (signs x)
  | _ => none
def xItems (f : Env → Out D) : Env → Out (List D) := fun ρ => (f ρ).bind fun d ρ1 => lift (itemsD d) ρ1
theorem i_seq {tg : Expr} (h : EOk X C ks .im e f) : IOk X C ks tg e (xItems f) := fun p G ρ σ F H R S q => by
  cases hf : f ρ with
  | bad =>
    refine wi_of (pi_list pe_we) (h p G ρ σ F H _ S ?_)
    simp only [xItems, hf, Out.bind] at q
    exact q.elim
  | exc c d ρ1 =>
    refine wi_of (pi_list pe_we) (h p G ρ σ F H _ S ?_)
    simp only [xItems, hf, Out.bind] at q
    rw [hf]
    exact q
  | ok d ρ1 =>
    simp only [xItems, hf, Out.bind] at q
    obtain ⟨ds, e, q2⟩ := post_lift (β := Unit) q
    have run : ∀ {Q : VK}, (∀ F1 H1 v, Same F F1 → SR X.K C.io ks p G [] ρ1 σ F1 H1 → Rep X.K F1 v d → Q v H1) → WE X _ σ H Q := fun hq => h p G ρ σ F H _ S (by
      rw [hf]
      exact fun F1 H1 s v r => hq F1 H1 v s r.im.1 r.im.2)
    cases d with
    | list zs =>
      cases e
      refine wi_of (pi_list pe_we) (run fun F1 H1 v s S1 r => ?_)
      cases r with
      | lst h1 r1 => exact ⟨_, rfl, ⟨_, .inl (.inl (S1.same _ _ h1))⟩, q2 F1 H1 s _ S1 (it_list h1 r1)⟩
    | tuple zs =>
      cases e
      refine wi_of (pi_tup pe_we) (run fun F1 H1 v s S1 r => ?_)
      cases r with
      | tup h1 r1 => exact ⟨_, rfl, ⟨_, Same.sqT S1.same h1⟩, q2 F1 H1 s _ S1 (it_tup h1 r1)⟩
    | str x =>
      cases e
      refine wi_of (pi_str pe_we) (run fun F1 H1 v s S1 r => ?_)
      cases r with
      | str x => exact ⟨x, rfl, q2 F1 H1 s _ S1 it_str⟩
    | _ => cases e
def rng1D : List D → Option (List D)
  | [.int j] => if decide (-(2 ^ 62) ≤ j) && decide (j < 2 ^ 62) then some (intsD 0 j.toNat) else none
  | _ => none
def rng2D : List D → Option (List D)
  | [.int i, .int j] => if decide (-(2 ^ 62) ≤ i) && decide (i < 2 ^ 62) && decide (-(2 ^ 62) ≤ j) && decide (j < 2 ^ 62) then some (intsD i (j - i).toNat) else none
  | _ => none
def xRng (g : List D → Option (List D)) (fs : Env → Out (List D)) : Env → Out (List D) := fun ρ => (fs ρ).bind fun ds ρ1 => lift (g ds) ρ1
theorem i_rng1 {tg : Expr} {fs : Env → Out (List D)} {p' : Pos} (hm : X.mg "range" = none) (ha : AOk X C ks [a] fs) (hg : Gl X "range" := by rfl) (hs : starEach [a] X.env = [(false, eval a X.env)] := by rfl) : IOk X C ks tg (.Call (.Name "range" p') [a] [] pos) (xRng rng1D fs) := fun p G ρ σ F H R S q => by
  refine wi_of (pi_range1 hg hm pa_wa hs) ?_
  refine ha.then S q fun ds ρ1 F1 H1 vs s1 S1 r1 q1 => ?_
  obtain ⟨zs, e, q2⟩ := post_lift (β := Unit) q1
  cases r1 with
  | nil => cases e
  | cons r1 r2 =>
    cases r2 with
    | cons r2 r3 => cases r1 <;> cases e
    | nil =>
      cases r1 with
      | int j =>
        simp only [rng1D] at e
        split at e
        · rename_i h
          cases e
          simp only [Bool.and_eq_true, decide_eq_true_eq] at h
          exact ⟨j, rfl, h.1, h.2, q2 F1 H1 (Same.refl _) _ S1 it_rng⟩
        · cases e
      | _ => cases e
theorem i_rng2 {tg : Expr} {fs : Env → Out (List D)} {p' : Pos} (hm : X.mg "range" = none) (ha : AOk X C ks [a, b] fs) (hg : Gl X "range" := by rfl) (hs : starEach [a, b] X.env = [(false, eval a X.env), (false, eval b X.env)] := by rfl) (hs2 : starEach [b] X.env = [(false, eval b X.env)] := by rfl) :
    IOk X C ks tg (.Call (.Name "range" p') [a, b] [] pos) (xRng rng2D fs) := fun p G ρ σ F H R S q => by
  refine wi_of (pi_range2 hg hm pa_wa hs hs2) ?_
  refine ha.then S q fun ds ρ1 F1 H1 vs s1 S1 r1 q1 => ?_
  obtain ⟨zs, e, q2⟩ := post_lift (β := Unit) q1
  cases r1 with
  | nil => cases e
  | cons r1 r2 =>
    cases r2 with
    | nil => cases r1 <;> cases e
    | cons r2 r3 =>
      cases r3 with
      | cons _ _ => cases r1 <;> cases r2 <;> cases e
      | nil =>
        cases r1 with
        | int i => cases r2 with
          | int j =>
            simp only [rng2D] at e
            split at e
            · rename_i h
              cases e
              simp only [Bool.and_eq_true, decide_eq_true_eq] at h
              exact ⟨i, j, rfl, ⟨h.1.1.1, h.1.1.2, h.1.2, h.2⟩, q2 F1 H1 (Same.refl _) _ S1 it_rng⟩
            · cases e
          | _ => cases e
        | _ => cases r2 <;> cases e
/-- zip of two lists, of a tuple and a list .. : lists alone here -/
def zipD : List D → Option (List D)
  | [.list xs, .list ys] => some (List.zipWith (fun x y => .tuple [x, y]) xs ys)
  | _ => none
theorem it_zip {K : PySem.W.Frag} {q q' : Addr} {xs ys : List V} {ds es : List D} (h : F q = some (.lst xs)) (r : RepA K F xs ds) (h' : F q' = some (.lst ys)) (r' : RepA K F ys es) : ItD K F (Itz K q q') (List.zipWith (fun x y => .tuple [x, y]) ds es) where
  go := fun i F1 H1 s s' hi => by
    rw [List.length_zipWith] at hi
    obtain ⟨v, ev, _⟩ := r.get (List.getElem?_eq_getElem (show i < ds.length by omega))
    obtain ⟨u, eu, _⟩ := r'.get (List.getElem?_eq_getElem (show i < es.length by omega))
    exact ⟨xs, ys, v, u, .inl (.inl (s' _ _ (s _ _ h))), .inl (.inl (s' _ _ (s _ _ h'))), ev, eu⟩
  stop := fun i F1 H1 s s' hi => by
    rw [List.length_zipWith] at hi
    refine ⟨xs, ys, .inl (.inl (s' _ _ (s _ _ h))), .inl (.inl (s' _ _ (s _ _ h'))), ?_⟩
    rw [r.length, r'.length]
    omega
  yld := fun i F1 H1 v H' d s s' hd y => by
    obtain ⟨T, x, z, e1, hT, e2, y1, y2⟩ := y
    subst e1 e2
    rw [List.getElem?_zipWith] at hd
    cases hx : ds[i]? with
    | none => rw [hx] at hd; cases hd
    | some dx =>
      cases hz : es[i]? with
      | none => rw [hx, hz] at hd; cases hd
      | some dz =>
        rw [hx, hz] at hd
        cases hd
        obtain ⟨v, ev, rv⟩ := r.get hx
        obtain ⟨u, eu, ru⟩ := r'.get hz
        have z1 := y1 xs (.inl (.inl (s' _ _ (s _ _ h))))
        have z2 := y2 ys (.inl (.inl (s' _ _ (s _ _ h'))))
        rw [ev] at z1
        rw [eu] at z2
        have ex : v = x := Option.some.inj z1
        have ez : u = z := Option.some.inj z2
        rw [ex] at rv
        rw [ez] at ru
        have sn := same_new (o := HO.tup [x, z]) (same_not s' hT)
        exact ⟨_, Grow.alloc s' hT, .tup (.inl (.inl upd_same)) (.cons ((rv.up s).up sn) (.cons ((ru.up s).up sn) .nil))⟩
theorem i_zip {elts : List Expr} {kk : Nat} {tpos p' : Pos} {fs : Env → Out (List D)} (hm : X.mg "zip" = none) (ha : AOk X C ks [a, b] fs) (hg : Gl X "zip" := by rfl) (hs : starEach [a, b] X.env = (false, eval a X.env) :: starEach [b] X.env := by rfl)
    (hpl : (backTo pos (starEach [b] X.env)).any (·.1) = false := by rfl) : IOk X C ks (.Tuple elts kk tpos) (.Call (.Name "zip" p') [a, b] [] pos) (xRng zipD fs) := fun p G ρ σ F H R S q => by
  refine wi_of (pi_zip hg hm pa_wa hs hpl) ?_
  refine ha.then S q fun ds ρ1 F1 H1 vs s1 S1 r1 q1 => ?_
  obtain ⟨zs, e, q2⟩ := post_lift (β := Unit) q1
  cases r1 with
  | nil => cases e
  | cons r1 r2 =>
    cases r2 with
    | nil => cases r1 <;> cases e
    | cons r2 r3 =>
      cases r3 with
      | cons _ _ => cases r1 <;> cases r2 <;> cases e
      | nil =>
        cases r1 with
        | lst h1 t1 => cases r2 with
          | lst h2 t2 =>
            cases e
            exact ⟨_, _, _, _, rfl, .inl (.inl (S1.same _ _ h1)), .inl (.inl (S1.same _ _ h2)), q2 F1 H1 (Same.refl _) _ S1 (it_zip h1 t1 h2 t2)⟩
          | _ => cases e
        | _ => cases r2 <;> cases e
/-! ### for -/
def forD (h : D → Env → Out Unit) (u : Env → Out SO) : List D → Env → Out SO
  | [], ρ => .ok .nx ρ
  | d :: ds, ρ => (h d ρ).bind fun _ ρ1 => (u ρ1).bind fun so ρ2 => match so with
    | .nx => forD h u ds ρ2
    | .ret d => .ok (.ret d) ρ2
def yFor (fi : Env → Out (List D)) (h : D → Env → Out Unit) (u : Env → Out SO) : Env → Out SO := fun ρ => (fi ρ).bind fun ds ρ1 => forD h u ds ρ1
theorem s_for {tg iter : Expr} {fi : Env → Out (List D)} {h : D → Env → Out Unit} {u : Env → Out SO} (hp : PassesOwn (model X.prog X.w) X.A X.env X.xe) (hc : X.calm = true) (hi : IOk X C ks tg iter fi) (hg : GOk X C ks km tg h) (hb : SsOk X C km ks bd u)
    (hs : ∀ x, foldedSetIterable iter X.env x = pure x := by intro _; rfl) : SOk X C ks ks (.For tg iter bd [] pos) (yFor fi h u) := fun p G ρ σ F H Dn S q => by
  refine ws_of (ps_for hp hc pi_wi pg_wg pss_wss hs) ?_
  refine hi p G ρ σ F H _ S (q.bind.imp fun ds ρ1 F1 H1 s1 q1 J S1 it => ?_)
  refine ⟨fun i m σ H => m = ds.length - i ∧ i ≤ ds.length ∧ ∃ ρ F, Same F1 F ∧ SR X.K C.io ks p G [] ρ σ F H ∧ PostG X.K C p G F (forD h u (ds.drop i) ρ) (RS X C ks p G Dn), ⟨_, rfl, Nat.zero_le _, ρ1, F1, Same.refl _, S1, q1⟩, ?_⟩
  rintro i m σ2 H2 ⟨rfl, hi, ρ2, F2, s2, S2, q2⟩
  by_cases hlt : i < ds.length
  · refine .inr ⟨it.go i F2 H2 s2 S2.same hlt, fun σ' H' => ∃ ρ F, Same F1 F ∧ SR X.K C.io ks p G [] ρ σ' F H' ∧ PostG X.K C p G F (forD h u (ds.drop (i + 1)) ρ) (RS X C ks p G Dn), fun σ' H' z => ⟨ds.length - (i + 1), by omega, rfl, hlt, z⟩, fun x H' y => ?_⟩
    have hd : ds[i]? = some ds[i] := List.getElem?_eq_getElem hlt
    obtain ⟨F3, gr, rx⟩ := it.yld i F2 H2 x H' _ s2 S2.same hd y
    rw [List.drop_eq_getElem_cons hlt] at q2
    refine hg p G ρ2 σ2 F3 H' x _ _ (S2.grow gr) rx ((q2.mono gr.f).bind.imp fun _ ρ4 F4 H4 s4 q4 σ4 S4 => ?_)
    refine hb p G ρ4 σ4 F4 H4 _ S4 (q4.bind.imp fun so ρ5 F5 H5 s5 q5 => ?_)
    cases so with
    | nx => exact fun σ5 S5 => ⟨ρ5, F5, ((s2.trans gr.f).trans s4).trans s5, S5, q5⟩
    | ret d => exact q5 F5 H5 (Same.refl _)
  · refine .inl ⟨it.stop i F2 H2 s2 S2.same (by omega), ?_⟩
    rw [List.drop_eq_nil_of_le (by omega)] at q2
    exact q2 F2 H2 (Same.refl _) σ2 S2
end
end De
set_option maxHeartbeats 4000000
/-! De9: comprehensions. -/
namespace De
open PySem PySem.Spec L2
def noexc {α : Type} (o : Out α) : Out α :=
  match o with
  | .ok a ρ => .ok a ρ
  | _ => .bad
abbrev Cs.blk (C : Cs) : Cs := { C with W := fun _ _ _ _ => False }
theorem PostG.noexc {K : PySem.W.Frag} {C : Cs} {p : Option Addr} {G F : Hp} {α : Type} {o : Out α} {R : α → Env → Hp → Hp → Prop} (h : PostG K C p G F (noexc o) R) : PostG K C.blk p G F o R := by
  cases o with
  | ok a ρ => exact h
  | exc c d ρ => exact h.elim
  | bad => exact h
def wipeD (ρ : Env) : List Nat → Env
  | [] => ρ
  | v :: vs => (wipeD ρ vs).set v none
def restD (ρ ρ' : Env) : List Nat → Env
  | [] => ρ'
  | v :: vs => (restD ρ ρ' vs).set v (ρ[v]?.join)
theorem wipeD_length (ρ : Env) : ∀ vs, (wipeD ρ vs).length = ρ.length
  | [] => rfl
  | v :: vs => by unfold wipeD; rw [List.length_set, wipeD_length]
theorem restD_length (ρ ρ' : Env) : ∀ vs, (restD ρ ρ' vs).length = ρ'.length
  | [] => rfl
  | v :: vs => by unfold restD; rw [List.length_set, restD_length]
theorem wipeD_in {ρ : Env} {i : Nat} : ∀ {vs : List Nat}, i ∈ vs → (wipeD ρ vs)[i]?.join = none
  | v :: vs, h => by
    unfold wipeD
    by_cases e : i = v
    · subst e
      by_cases hl : i < (wipeD ρ vs).length
      · rw [join_set_self hl]
      · rw [List.getElem?_eq_none (by rw [List.length_set]; omega)]; rfl
    · rw [join_set_ne e]
      exact wipeD_in (by rcases List.mem_cons.mp h with z | z; exact absurd z e; exact z)
theorem wipeD_out {ρ : Env} {i : Nat} : ∀ {vs : List Nat}, i ∉ vs → (wipeD ρ vs)[i]?.join = ρ[i]?.join
  | [], _ => rfl
  | v :: vs, h => by
    unfold wipeD
    rw [join_set_ne (fun z => h (by rw [z]; exact List.mem_cons_self))]
    exact wipeD_out fun z => h (List.mem_cons_of_mem _ z)
theorem restD_in {ρ ρ' : Env} (hl : ρ'.length = ρ.length) {i : Nat} : ∀ {vs : List Nat}, i ∈ vs → (restD ρ ρ' vs)[i]?.join = ρ[i]?.join
  | v :: vs, h => by
    unfold restD
    by_cases e : i = v
    · subst e
      by_cases hi : i < ρ.length
      · rw [join_set_self (by rw [restD_length, hl]; exact hi)]
      · rw [List.getElem?_eq_none (by rw [List.length_set, restD_length, hl]; omega), List.getElem?_eq_none (by omega)]
    · rw [join_set_ne e]
      exact restD_in hl (by rcases List.mem_cons.mp h with z | z; exact absurd z e; exact z)
theorem restD_out {ρ ρ' : Env} {i : Nat} : ∀ {vs : List Nat}, i ∉ vs → (restD ρ ρ' vs)[i]?.join = ρ'[i]?.join
  | [], _ => rfl
  | v :: vs, h => by
    unfold restD
    rw [join_set_ne (fun z => h (by rw [z]; exact List.mem_cons_self))]
    exact restD_out fun z => h (List.mem_cons_of_mem _ z)
theorem wipe_at {σ : Sg} {i : Nat} : ∀ {vs : List Nat}, i ∉ vs → (wipe σ vs)[i]? = σ[i]? := fun h => wipe_out h
theorem wipe_set {σ : Sg} {i : Nat} {o : Option V} : ∀ {vs : List Nat}, i ∈ vs → wipe (σ.set i o) vs = wipe σ vs
  | v :: vs, h => by
    unfold wipe
    by_cases e : i = v
    · subst e
      have : ∀ ws : List Nat, (wipe (σ.set i o) ws).set i none = (wipe σ ws).set i none := fun ws => by
        induction ws with
        | nil => show (σ.set i o).set i none = σ.set i none; rw [List.set_set]
        | cons w ws ih =>
          unfold wipe
          by_cases e : w = i
          · subst e; rw [List.set_set, List.set_set]; exact ih
          · rw [List.set_comm _ _ e, List.set_comm _ _ e, ih]
      exact this vs
    · rw [wipe_set (by rcases List.mem_cons.mp h with z | z; exact absurd z e; exact z)]
section
variable {K : PySem.W.Frag} {io : Bool} {ks : List SK} {p : Option Addr} {G : Hp} {ex : List Addr} {ρ ρ' : Env} {σ : Sg} {F F' H H' : Hp} {vs : List Nat}
def vsOk (io : Bool) (ks : List SK) (vs : List Nat) : Bool := vs.all (fun v => decide (ks.getD v .im = .im)) && !(io && vs.contains 0)
theorem SR.wipe (hv : vsOk io ks vs = true) (S : SR K io ks p G ex ρ σ F H) : SR K io ks p G ex (wipeD ρ vs) (L2.wipe σ vs) F H := by
  unfold vsOk at hv
  simp only [Bool.and_eq_true, List.all_eq_true, decide_eq_true_eq, Bool.not_eq_true', Bool.and_eq_false_iff] at hv
  obtain ⟨hv1, hv2⟩ := hv
  obtain ⟨fp, h1, h2, h3, h4⟩ := S.st
  refine ⟨S.same, by rw [wipeD_length, wipe_length]; exact S.len, S.pio, fun a ha => ?_, S.gs, S.gd, fp, fun i => ?_, h2, h3, h4⟩
  · have h0 : 0 ∉ vs := fun z => by
      rcases hv2 with e | e
      · rw [S.pio e] at ha; cases ha
      · have : vs.contains 0 = true := by simpa using z
        rw [this] at e; cases e
    rw [wipe_at h0]
    exact S.pin a ha
  · by_cases hi : i ∈ vs
    · have hk := hv1 i hi
      have z := h1 i
      rw [hk] at z ⊢
      rw [wipeD_in hi]
      have e : fp i = [] := by
        cases hd : ρ[i]?.join with
        | none => rw [hd] at z; exact z.nil_of
        | some d => rw [hd] at z; exact z.1
      rw [e]
      exact SlotR.none'
    · rw [wipeD_out hi, wipe_at hi]
      exact h1 i
/-- behind a comprehension: its names as they were -/
theorem SR.rest (hv : vsOk io ks vs = true) (S0 : SR K io ks p G [] ρ σ F H) (s : Same F F') (S : SR K io ks p G ex ρ' (L2.wipe σ vs) F' H') : SR K io ks p G ex (restD ρ ρ' vs) σ F' H' := by
  unfold vsOk at hv
  simp only [Bool.and_eq_true, List.all_eq_true, decide_eq_true_eq] at hv
  obtain ⟨hv1, _⟩ := hv
  obtain ⟨fp, h1, h2, h3, h4⟩ := S.st
  obtain ⟨fp0, z1, _⟩ := S0.st
  have hl : ρ'.length = ρ.length := by rw [S.len, wipe_length, S0.len]
  refine ⟨S.same, by rw [restD_length, hl]; exact S0.len, S.pio, S0.pin, S.gs, S.gd, fp, fun i => ?_, h2, h3, h4⟩
  by_cases hi : i ∈ vs
  · have hk := hv1 i hi
    rw [restD_in hl hi]
    have z := z1 i
    have y := h1 i
    rw [hk] at z y ⊢
    have e : fp i = [] := by
      cases hd : ρ'[i]?.join with
      | none => rw [hd] at y; exact y.nil_of
      | some d => rw [hd] at y; exact y.1
    rw [e]
    cases hd : ρ[i]?.join with
    | none => exact SlotR.none'
    | some d =>
      rw [hd] at z
      obtain ⟨_, v, ev, r⟩ := z
      exact ⟨rfl, v, ev, r.up s⟩
  · rw [restD_out hi, ← wipe_at (σ := σ) hi]
    exact h1 i
/-! ### objects of nobody's, held while something else runs -/
def hld (ex : List Addr) (G H : Hp) : Hp := fun b => if b ∈ ex then H b else G b
theorem hld_in {b : Addr} (h : b ∈ ex) : hld ex G H b = H b := if_pos h
theorem hld_out {b : Addr} (h : b ∉ ex) : hld ex G H b = G b := if_neg h
theorem SR.hold (hx : ∀ a ∈ ex, F a = none ∧ G a = none) (S : SR K io ks p G ex ρ σ F H) : SR K io ks p (hld ex G H) [] ρ σ F H := by
  obtain ⟨fp, h1, h2, h3, h4⟩ := S.st
  refine ⟨S.same, S.len, S.pio, S.pin, fun b o e => ?_, fun b o e => ?_, fp, h1, h2, h3, fun i a ha => ⟨(h4 i a ha).1, ?_, by simp⟩⟩
  · by_cases hb : b ∈ ex
    · rw [hld_in hb] at e; exact e
    · rw [hld_out hb] at e; exact S.gs b o e
  · by_cases hb : b ∈ ex
    · exact (hx b hb).1
    · rw [hld_out hb] at e; exact S.gd b o e
  · rw [hld_out (h4 i a ha).2.2]; exact (h4 i a ha).2.1
theorem SR.unhold {ex' : List Addr} (hx : ∀ a ∈ ex, G a = none ∧ ∃ o, H a = some o) (he : ∀ a ∈ ex', hld ex G H a = none) (S : SR K io ks p (hld ex G H) ex' ρ σ F' H') : SR K io ks p G (ex ++ ex') ρ σ F' H' ∧ (∀ a ∈ ex, H' a = H a ∧ F' a = none) ∧ (∀ a ∈ ex', a ∉ ex) := by
  obtain ⟨fp, h1, h2, h3, h4⟩ := S.st
  have there : ∀ a ∈ ex, ∃ o, H a = some o ∧ hld ex G H a = some o := fun a ha => by
    obtain ⟨_, o, e⟩ := hx a ha
    exact ⟨o, e, by rw [hld_in ha]; exact e⟩
  refine ⟨⟨S.same, S.len, S.pio, S.pin, fun b o e => S.gs b o ?_, fun b o e => S.gd b o ?_, fp, h1, h2, h3, fun i a ha => ?_⟩, fun a ha => ?_, fun a ha z => ?_⟩
  · rw [hld_out fun z => by rw [(hx b z).1] at e; cases e]; exact e
  · rw [hld_out fun z => by rw [(hx b z).1] at e; cases e]; exact e
  · obtain ⟨z1, z2, z3⟩ := h4 i a ha
    have hn : a ∉ ex := fun z => by
      obtain ⟨o, _, e⟩ := there a z
      rw [z2] at e; cases e
    rw [hld_out hn] at z2
    exact ⟨z1, z2, fun z => (List.mem_append.mp z).elim hn z3⟩
  · obtain ⟨o, e1, e2⟩ := there a ha
    exact ⟨by rw [e1]; exact S.gs a o e2, S.gd a o e2⟩
  · obtain ⟨o, _, e⟩ := there a z
    rw [he a ha] at e; cases e
/-- an object of nobody's is written -/
theorem SR.exset {q : Addr} {o : HO} (hq : q ∈ ex) (hf : F q = none) (hg : G q = none) (S : SR K io ks p G ex ρ σ F H) : SR K io ks p G ex ρ σ F (upd H q o) := by
  obtain ⟨fp, h1, h2, h3, h4⟩ := S.st
  refine ⟨fun b u e => ?_, S.len, S.pio, S.pin, fun b u e => ?_, S.gd, fp, fun i => (h1 i).up (Same.refl _) fun b hb => upd_ne fun z => (h4 i b hb).2.2 (z ▸ hq), h2, h3, h4⟩
  · rw [upd_ne fun z => by rw [z, hf] at e; cases e]; exact S.same b u e
  · rw [upd_ne fun z => by rw [z, hg] at e; cases e]; exact S.gs b u e
theorem SR.exsub {ex' : List Addr} (h : ∀ a ∈ ex', a ∈ ex) (S : SR K io ks p G ex ρ σ F H) : SR K io ks p G ex' ρ σ F H := by
  obtain ⟨fp, h1, h2, h3, h4⟩ := S.st
  exact ⟨S.same, S.len, S.pio, S.pin, S.gs, S.gd, fp, h1, h2, h3, fun i a ha => ⟨(h4 i a ha).1, (h4 i a ha).2.1, fun z => (h4 i a ha).2.2 (h a z)⟩⟩
end
theorem PostG.hold {K : PySem.W.Frag} {C : Cs} {p : Option Addr} {G F H : Hp} {ex : List Addr} {α : Type} {o : Out α} {R : α → Env → Hp → Hp → Prop} (hx : ∀ a ∈ ex, G a = none ∧ ∃ o, H a = some o) (h : PostG K C p G F o R) : PostG K C p (hld ex G H) F o R := by
  cases o with
  | ok a ρ => exact h
  | bad => exact h
  | exc c d ρ => exact fun F' H' σ cls da s S x => h F' H' σ cls da s (SR.unhold (ex' := []) hx (fun a z => nomatch z) S).1.noex x
/-! ### the clause -/
section
variable {X : Cx} {C : Cs} {ks : List SK} {vs : List Nat}
/-- a target that stores to the block's own names alone -/
def GvOk (X : Cx) (C : Cs) (ks : List SK) (vs : List Nat) (tg : Expr) (h : D → Env → Out Unit) : Prop :=
  ∀ p G ρ σ F H v d Q, SR X.K C.io ks p G [] ρ σ F H → Rep X.K F v d → PostG X.K C p G F (h d ρ) (fun _ ρ' F' H' => ∀ σ', SR X.K C.io ks p G [] ρ' σ' F' H' → wipe σ' vs = wipe σ vs → Q σ' H') → WG X tg v σ H Q
def GvsOk (X : Cx) (C : Cs) (ks : List SK) (vs : List Nat) (ts : List Expr) (h : List D → Env → Out Unit) : Prop :=
  ∀ p G ρ σ F H ws ds Q, SR X.K C.io ks p G [] ρ σ F H → RepA X.K F ws ds → PostG X.K C p G F (h ds ρ) (fun _ ρ' F' H' => ∀ σ', SR X.K C.io ks p G [] ρ' σ' F' H' → wipe σ' vs = wipe σ vs → Q σ' H') → WGs X ts ws σ H Q
theorem gv_name (i : Nat) {x : Str} {pos : Pos} (hN : X.N.Nodup) (hi : X.N[i]? = some x := by rfl) (hx : Loc X.env.scope x := by first | exact Or.inl rfl | exact Or.inr rfl) (hlt : i < ks.length := by decide) (h0 : (C.io && decide (i = 0)) = false := by rfl) (hks : ks.set i .im = ks := by rfl) (hv : i ∈ vs := by decide)
    (hf : X.fn x = true ∨ X.env.scope.names.lookup x = some .local := by first | exact .inl rfl | exact .inr rfl) : GvOk X C ks vs (.Name x pos) (zName i) := fun p G ρ σ F H v d Q S r q =>
  wg_of (pg_name hN hi hx hf) (show Q (σ.set i (some v)) H from q F H (Same.refl _) _ (by have z := SR.store hlt h0 (ROk.of S r); rw [hks] at z; exact z) (wipe_set hv))
theorem gvs_nil : GvsOk X C ks vs [] zNil := fun p G ρ σ F H ws ds Q S r q => by
  cases r with
  | nil => exact wgs_of pgs_nil ⟨rfl, q F H (Same.refl _) σ S rfl⟩
  | cons _ _ => exact q.elim
theorem gvs_cons {e : Expr} {ts : List Expr} {h : D → Env → Out Unit} {hs : List D → Env → Out Unit} (h1 : GvOk X C ks vs e h) (h2 : GvsOk X C ks vs ts hs) (hst : (assignEach (e :: ts) X.env).map (·.2) = assign e X.env :: (assignEach ts X.env).map (·.2) := by rfl) :
    GvsOk X C ks vs (e :: ts) (zCons h hs) := fun p G ρ σ F H ws ds Q S r q => by
  cases r with
  | nil => exact q.elim
  | cons r1 r2 =>
    refine wgs_of (pgs_cons pg_wg pgs_wgs hst) ⟨_, _, rfl, ?_⟩
    refine h1 p G ρ σ F H _ _ _ S r1 (q.bind.imp fun _ ρ1 F1 H1 s q1 σ1 S1 e1 => ?_)
    exact h2 p G ρ1 σ1 F1 H1 _ _ Q S1 (r2.up s) (q1.imp fun _ ρ2 F2 H2 s2 q2 σ2 S2 e2 => q2 σ2 S2 (e2.trans e1))
theorem gv_tup (n : Nat) {ts : List Expr} {kx : Nat} {pos : Pos} {hs : List D → Env → Out Unit} (hc : X.calm = true) (h : GvsOk X C ks vs ts hs) (hn : (assignEach ts X.env).length = n := by rfl) (hst : (assignEach ts X.env).findIdx? (·.1) = none := by rfl) :
    GvOk X C ks vs (.Tuple ts kx pos) (zTup n hs) := fun p G ρ σ F H v d Q S r q => by
  refine wg_of (pg_tup hc pgs_wgs hn hst) ?_
  cases r with
  | tup h1 r1 =>
    simp only [zTup] at q
    split at q
    · rename_i hl
      exact ⟨_, _, rfl, Same.sqT S.same h1, r1.length.trans hl, h p G ρ σ F H _ _ Q S r1 q⟩
    · exact q.elim
  | _ => exact q.elim
/-- the tests of a clause -/
structure WTs (X : Cx) (ifs : List Expr) (σ : Sg) (H : Hp) (Q : Bool → Hp → Prop) : Prop where
  run : ∀ pins s, Inv X pins σ H s →
  wpAny (model X.prog X.w) X.A (forIn ifs true fun c r => if r = true then do let ok ← isTrue c X.env (eval c X.env); pure (ForInStep.yield ok) else pure (ForInStep.yield r)) (TP X pins σ Q) X.xe s
def TsOk (X : Cx) (C : Cs) (ks : List SK) (ifs : List Expr) (f : Env → Out Bool) : Prop :=
  ∀ p G ρ σ F H Q, SR X.K C.io ks p G [] ρ σ F H → PostG X.K C p G F (f ρ) (fun b ρ' F' H' => SR X.K C.io ks p G [] ρ' σ F' H' → Q b H') → WTs X ifs σ H Q
def xYes : Env → Out Bool := fun ρ => .ok true ρ
theorem ts_nil : TsOk X C ks [] xYes := fun p G ρ σ F H Q S q => ⟨fun pins s I => pts_nil.run pins s σ H Q I (q F H (Same.refl _) S)⟩
theorem ts_one {c : Expr} {t : Env → Out Bool} (h : TOk X C ks c t) : TsOk X C ks [c] t := fun p G ρ σ F H Q S q => ⟨fun pins s I => (pts_one pt_wt).run pins s σ H Q I (h p G ρ σ F H Q S q)⟩
def compD (h : D → Env → Out Unit) (t : Env → Out Bool) (f : Env → Out D) (vs : List Nat) : List D → Env → Out (List D)
  | [], ρ => .ok [] ρ
  | d :: r, ρ => (h d ρ).bind fun _ ρ1 => (t ρ1).bind fun b ρ2 => if b then (f ρ2).bind fun y ρ3 => (compD h t f vs r (wipeD ρ3 vs)).bind fun ys ρ4 => .ok (y :: ys) ρ4 else compD h t f vs r (wipeD ρ2 vs)
def xComp (fi : Env → Out (List D)) (h : D → Env → Out Unit) (t : Env → Out Bool) (f : Env → Out D) (vs : List Nat) : Env → Out D := fun ρ => (fi ρ).bind fun ds ρ1 => if ds.length < sizeLine then
    (noexc (compD h t f vs ds (wipeD ρ1 vs))).bind fun ys ρ2 => .ok (.list ys) (restD ρ1 ρ2 vs) else .bad
/-- what has been made so far, of items in the way ek -/
def AccR (K : PySem.W.Frag) (F H : Hp) (ek : SK) (acc : List V) (done : List D) (bs : List Addr) : Prop :=
  match ek with
  | .im => RepA K F acc done ∧ bs = []
  | .ml => acc = bs.map V.ref ∧ RowsR K F H bs done
  | _ => False
def cK : SK → SK
  | .ml => .mm
  | _ => .ml
section
variable {K : PySem.W.Frag} {F F' H H' : Hp} {ek : SK} {acc : List V} {done : List D} {bs : List Addr}
theorem AccR.up (h : AccR K F H ek acc done bs) (s : Same F F') (k : ∀ b ∈ bs, H' b = H b) : AccR K F' H' ek acc done bs := by
  cases ek with
  | im => exact ⟨h.1.up s, h.2⟩
  | ml => exact ⟨h.1, h.2.up s k⟩
  | _ => exact h
theorem AccR.length (h : AccR K F H ek acc done bs) : acc.length = done.length := by
  cases ek with
  | im => exact h.1.length
  | ml => rw [h.1, List.length_map]; exact Paired.length h.2
  | _ => exact h.elim
theorem AccR.there (h : AccR K F H ek acc done bs) : ∀ b ∈ bs, ∃ o, H b = some o := by
  cases ek with
  | im => rw [h.2]; exact fun b z => nomatch z
  | ml => exact h.2.there
  | _ => exact h.elim
theorem RowsR.app {bs : List Addr} {rows : List D} {b : Addr} {d : D} (h : RowsR K F H bs rows) (h1 : ∃ xs ds, d = .list ds ∧ H b = some (.lst xs) ∧ RepA K F xs ds) : RowsR K F H (bs ++ [b]) (rows ++ [d]) := by
  unfold RowsR at *
  induction h with
  | nil => exact .cons h1 .nil
  | cons r t ih => exact .cons r ih
theorem AccR.add {y : V} {d : D} {fp : List Addr} (h : AccR K F H ek acc done bs) (hs : SlotR K F H ek (some d) (some y) fp) : AccR K F H ek (acc ++ [y]) (done ++ [d]) (bs ++ fp) := by
  cases ek with
  | im =>
    obtain ⟨e, v, ev, r⟩ := hs
    cases ev
    exact ⟨h.1.append (.cons r .nil), by rw [h.2, e]; rfl⟩
  | ml =>
    obtain ⟨a, xs, ds, e1, e2, ha, r, e3⟩ := hs
    cases e1
    refine ⟨by rw [h.1, e3]; simp, ?_⟩
    rw [e3]
    exact h.2.app ⟨xs, ds, e2, ha, r⟩
  | _ => exact h.elim
theorem AccR.fin {q : Addr} (h : AccR K F H ek acc done bs) (hq : H q = some (.lst acc)) : SlotR K F H (cK ek) (some (.list done)) (some (.ref q)) (q :: bs) := by
  cases ek with
  | im => exact ⟨q, acc, done, rfl, rfl, hq, h.1, by rw [h.2]⟩
  | ml => exact ⟨q, bs, done, rfl, rfl, by rw [hq, h.1], h.2, rfl⟩
  | _ => exact h.elim
theorem AccR.nil (h : ek = .im ∨ ek = .ml) : AccR K F H ek [] [] [] := by
  rcases h with h | h
  · subst h; exact ⟨.nil, rfl⟩
  · subst h; exact ⟨rfl, Paired.nil⟩
end
theorem wipe_idem (σ : Sg) (vs : List Nat) : wipe (wipe σ vs) vs = wipe σ vs := by
  have key : ∀ ws : List Nat, (∀ w ∈ ws, w ∈ vs) → wipe (wipe σ vs) ws = wipe σ vs := fun ws => by
    induction ws with
    | nil => intro _; rfl
    | cons w ws ih =>
      intro hw
      show (wipe (wipe σ vs) ws).set w none = wipe σ vs
      rw [ih fun z hz => hw z (List.mem_cons_of_mem _ hz)]
      apply List.ext_getElem?
      intro j
      by_cases hj : j = w
      · subst hj
        by_cases hl : j < (wipe σ vs).length
        · rw [List.getElem?_set_self hl]
          have hm := hw j List.mem_cons_self
          have : ∀ us : List Nat, j ∈ us → j < (wipe σ us).length → (wipe σ us)[j]? = some none := fun us => by
            induction us with
            | nil => intro z; cases z
            | cons u us ih2 =>
              intro z hl
              unfold wipe at hl ⊢
              rw [List.length_set] at hl
              by_cases hu : u = j
              · subst hu; rw [List.getElem?_set_self hl]
              · rw [List.getElem?_set_ne hu]
                exact ih2 (by rcases List.mem_cons.mp z with z | z; exact absurd z.symm hu; exact z) hl
          exact (this vs hm hl).symm
        · rw [List.getElem?_eq_none (by rw [List.length_set]; omega), List.getElem?_eq_none (by omega)]
      · rw [List.getElem?_set_ne (Ne.symm hj)]
  exact key vs fun _ z => z
theorem bind_ok {α β : Type} {o : Out α} {f : α → Env → Out β} {b : β} {ρ : Env} (h : o.bind f = .ok b ρ) : ∃ a ρ1, o = .ok a ρ1 ∧ f a ρ1 = .ok b ρ := by
  cases o with
  | ok a ρ1 => exact ⟨a, ρ1, rfl, h⟩
  | exc _ _ _ => cases h
  | bad => cases h
theorem lc_run {ek : SK} {elt tg iter : Expr} {ifs : List Expr} {scope : Scope} {fi : Env → Out (List D)} {h : D → Env → Out Unit} {t : Env → Out Bool} {f : Env → Out D} (hek : ek = .im ∨ ek = .ml) (hv : vsOk C.io ks vs = true)
    (hi : IOk X C ks tg iter fi)
    (hg : ∀ (s : Shared) (H : Hp) (A : Addr) (cl : List (Str × Addr)) (fp : List Addr), GvOk (X.blk s H scope (compEnvC scope cl A X.env) fp) C.blk ks vs tg h)
    (ht : ∀ (s : Shared) (H : Hp) (A : Addr) (cl : List (Str × Addr)) (fp : List Addr), TsOk (X.blk s H scope (compEnvC scope cl A X.env) fp) C.blk ks ifs t)
    (he : ∀ (s : Shared) (H : Hp) (A : Addr) (cl : List (Str × Addr)) (fp : List Addr), EOk (X.blk s H scope (compEnvC scope cl A X.env) fp) C.blk ks ek elt f)
    {p : Option Addr} {G : Hp} {ρ : Env} {σ : Sg} {F H : Hp} {Q : VK} (S : SR X.K C.io ks p G [] ρ σ F H) (q : PostG X.K C p G F (xComp fi h t f vs ρ) (fun d ρ' F' H' => ∀ v, ROk X.K C.io ks p G ρ' σ (cK ek) d F' H' v → Q v H')) :
    tLc (WI X tg iter) (fun v σ H Q => ∀ s H0 A cl fp, WG (X.blk s H0 scope (compEnvC scope cl A X.env) fp) tg v σ H Q) (fun σ H Q => ∀ s H0 A cl fp, WTs (X.blk s H0 scope (compEnvC scope cl A X.env) fp) ifs σ H Q)
      (fun σ H Q => ∀ s H0 A cl fp, WE (X.blk s H0 scope (compEnvC scope cl A X.env) fp) elt σ H Q) vs σ H Q := by
  refine hi p G ρ σ F H _ S (q.bind.imp fun ds ρ1 F1 H1 s1 q1 J S1 it => ?_)
  intro L hL
  split at q1
  case isFalse => exact q1.elim
  rename_i hlen
  cases ho : compD h t f vs ds (wipeD ρ1 vs) with
  | bad => rw [ho] at q1; exact q1.elim
  | exc _ _ _ => rw [ho] at q1; exact q1.elim
  | ok ys ρe =>
  rw [ho] at q1
  have q2 : ∀ F' H', Same F1 F' → ∀ v, ROk X.K C.io ks p G (restD ρ1 ρe vs) σ (cK ek) (.list ys) F' H' v → Q v H' := q1
  have gL : G L = none := same_not S1.gs hL
  have fL : F1 L = none := same_not S1.same hL
  refine ⟨fun i m H => m = ds.length - i ∧ i ≤ ds.length ∧ ∃ ρ' F' acc done bs yr, Same F1 F' ∧ SR X.K C.io ks p G (L :: bs) ρ' (wipe σ vs) F' H ∧ H L = some (.lst acc) ∧ AccR X.K F' H ek acc done bs ∧ (L :: bs).Nodup ∧ (∀ a ∈ L :: bs, F' a = none ∧ G a = none) ∧ acc.length ≤ i ∧
    compD h t f vs (ds.drop i) ρ' = .ok yr ρe ∧ ys = done ++ yr, ⟨_, rfl, Nat.zero_le _, wipeD ρ1 vs, F1, [], [], [], ys, Same.refl _, ?_, upd_same, AccR.nil hek, by simp, fun a ha => ?_, Nat.zero_le _, ho, rfl⟩, ?_⟩
  · obtain ⟨fp, h1, h2, h3, h4⟩ := (S1.wipe hv).st
    have sn := same_new (o := HO.lst []) hL
    have th : ∀ i, ∀ b ∈ fp i, b ≠ L := fun i b hb z => by
      obtain ⟨o, e⟩ := (h1 i).there b hb
      rw [z, hL] at e; cases e
    exact ⟨S1.same.trans sn, (S1.wipe hv).len, S1.pio, (S1.wipe hv).pin, S1.gs.trans sn, S1.gd, fp, fun i => (h1 i).up (Same.refl _) fun b hb => upd_ne (th i b hb), h2, h3, fun i a ha => ⟨(h4 i a ha).1, (h4 i a ha).2.1, fun z => th i a ha (List.mem_singleton.mp z)⟩⟩
  · rw [List.mem_singleton.mp ha]; exact ⟨fL, gL⟩
  rintro i m H2 ⟨rfl, hi, ρ2, F2, acc, done, bs, yr, s2, S2, hA, hR, hnd, hfr, hal, q3, hys⟩
  by_cases hlt : i < ds.length
  · refine .inr ⟨it.go i F2 H2 s2 S2.same hlt, fun H' => ∃ ρ' F' acc done bs yr, Same F1 F' ∧ SR X.K C.io ks p G (L :: bs) ρ' (wipe σ vs) F' H' ∧ H' L = some (.lst acc) ∧ AccR X.K F' H' ek acc done bs ∧ (L :: bs).Nodup ∧ (∀ a ∈ L :: bs, F' a = none ∧ G a = none) ∧ acc.length ≤ i + 1 ∧
      compD h t f vs (ds.drop (i + 1)) ρ' = .ok yr ρe ∧ ys = done ++ yr, fun H' z => ⟨ds.length - (i + 1), by omega, rfl, hlt, z⟩, fun x H3 y => ?_⟩
    obtain ⟨F3, gr, rx⟩ := it.yld i F2 H2 x H3 _ s2 S2.same (List.getElem?_eq_getElem hlt) y
    rw [List.drop_eq_getElem_cons hlt] at q3
    obtain ⟨_, ρ4, eh, q4⟩ := bind_ok q3
    obtain ⟨b, ρ5, et, q5⟩ := bind_ok q4
    have S3 := S2.grow gr
    have th2 : ∀ a ∈ L :: bs, ∃ o, H2 a = some o := fun a ha => by
      rcases List.mem_cons.mp ha with e | hb
      · rw [e]; exact ⟨_, hA⟩
      · exact hR.there a hb
    have hA3 : H3 L = some (.lst acc) := gr.h _ _ hA
    have k3 : ∀ a ∈ L :: bs, H3 a = H2 a := fun a ha => by
      obtain ⟨o, e⟩ := th2 a ha
      rw [e]; exact gr.h a o e
    have hx3 : ∀ a ∈ L :: bs, F3 a = none ∧ G a = none := fun a ha => by
      obtain ⟨o, e⟩ := th2 a ha
      exact ⟨by rw [gr.n a o e]; exact (hfr a ha).1, (hfr a ha).2⟩
    have hy3 : ∀ a ∈ L :: bs, G a = none ∧ ∃ o, H3 a = some o := fun a ha => by
      obtain ⟨o, e⟩ := th2 a ha
      exact ⟨(hfr a ha).2, o, gr.h a o e⟩
    have SH := S3.hold hx3
    -- back from the block
    have back : ∀ {ρ' : Env} {σ' : Sg} {F' H' : Hp} {ex' : List Addr}, Same F3 F' → (∀ a ∈ ex', hld (L :: bs) G H3 a = none) → SR X.K C.io ks p (hld (L :: bs) G H3) ex' ρ' σ' F' H' →
        SR X.K C.io ks p G ((L :: bs) ++ ex') ρ' σ' F' H' ∧ H' L = some (.lst acc) ∧ AccR X.K F' H' ek acc done bs ∧ (∀ a ∈ L :: bs, F' a = none ∧ G a = none) ∧ (∀ a ∈ ex', a ∉ L :: bs) := fun {ρ' σ' F' H' ex'} s he S' => by
      obtain ⟨z1, z2, z3⟩ := SR.unhold hy3 he S'
      refine ⟨z1, by rw [(z2 L List.mem_cons_self).1]; exact hA3, hR.up (gr.f.trans s) fun b hb => by rw [(z2 b (List.mem_cons_of_mem _ hb)).1, k3 b (List.mem_cons_of_mem _ hb)], fun a ha => ⟨(z2 a ha).2, (hfr a ha).2⟩, z3⟩
    intro s0 H0 A0 cl0 fp0
    refine hg s0 H0 A0 cl0 fp0 p _ ρ2 (wipe σ vs) F3 H3 x _ _ SH rx ?_
    rw [eh]
    intro F4 H4 s4 σ4 S4 e4
    rw [wipe_idem] at e4
    refine ⟨e4, ?_⟩
    intro s0 H0 A0 cl0 fp0
    refine ht s0 H0 A0 cl0 fp0 p _ ρ4 σ4 F4 H4 _ S4 ?_
    rw [et]
    intro F5 H5 s5 S5
    cases b with
    | false =>
      rw [if_neg Bool.false_ne_true] at q5 ⊢
      obtain ⟨z1, z2, z3, z4, _⟩ := back (ex' := []) (s4.trans s5) (fun a z => nomatch z) S5
      rw [List.append_nil] at z1
      exact ⟨wipeD ρ5 vs, F5, acc, done, bs, yr, (s2.trans gr.f).trans (s4.trans s5), by rw [← e4]; exact z1.wipe hv, z2, z3, hnd, z4, by omega, q5, hys⟩
    | true =>
      rw [if_pos rfl] at q5 ⊢
      obtain ⟨d, ρ6, ee, q6⟩ := bind_ok q5
      obtain ⟨yr', ρ7, ec, q7⟩ := bind_ok q6
      injection q7 with q8 q9
      subst q9
      intro s0 H0 A0 cl0 fp0
      refine he s0 H0 A0 cl0 fp0 p _ ρ5 σ4 F5 H5 _ S5 ?_
      rw [ee]
      intro F6 H6 s6 yv ⟨fp, S6, hs, nd6, fr6⟩
      obtain ⟨z1, z2, z3, z4, z5⟩ := back ((s4.trans s5).trans s6) (fun a ha => (fr6 a ha).2) S6
      have hal' : acc.length < sizeLine := by omega
      refine ⟨acc, z2, hal', wipeD ρ6 vs, F6, acc ++ [yv], done ++ [d], bs ++ fp, yr', (s2.trans gr.f).trans ((s4.trans s5).trans s6), ?_, upd_same, ?_, ?_, fun a ha => ?_, by rw [List.length_append]; exact Nat.add_le_add_right hal 1, ec, ?_⟩
      · have z6 := z1.wipe hv
        rw [e4] at z6
        exact SR.exset List.mem_cons_self (z4 L List.mem_cons_self).1 (z4 L List.mem_cons_self).2 z6
      · refine (AccR.add z3 hs).up (Same.refl _) fun b hb => upd_ne fun z => ?_
        subst z
        rcases List.mem_append.mp hb with hb | hb
        · exact (List.nodup_cons.mp hnd).1 hb
        · exact z5 _ hb List.mem_cons_self
      · have hnd' : ((L :: bs) ++ fp).Nodup := List.nodup_append.mpr ⟨hnd, nd6, fun a ha b hb e => z5 b hb (e ▸ ha)⟩
        exact hnd'
      · have ha' : a ∈ (L :: bs) ++ fp := ha
        rcases List.mem_append.mp ha' with ha | ha
        · exact z4 a ha
        · refine ⟨(fr6 a ha).1, ?_⟩
          have z := (fr6 a ha).2
          rw [hld_out (z5 a ha)] at z
          exact z
      · rw [hys, ← q8]; simp
  · have ei : i = ds.length := by omega
    refine .inl ⟨it.stop i F2 H2 s2 S2.same (by omega), ?_⟩
    rw [List.drop_eq_nil_of_le (by omega)] at q3
    injection q3 with e1 e2
    subst e1 e2
    rw [List.append_nil] at hys
    subst hys
    exact q2 F2 H2 s2 (.ref L) ⟨L :: bs, SR.rest hv S1 s2 S2, hR.fin hA, hnd, hfr⟩
/-- [elt for tg in iter if ..] -/
theorem e_comp {ek : SK} {elt tg iter : Expr} {ifs : List Expr} {scope : Scope} {own : List (Str × Nat)} {pos : Pos} {fi : Env → Out (List D)} {h : D → Env → Out Unit} {t : Env → Out Bool} {f : Env → Out D} (hek : ek = .im ∨ ek = .ml) (hc : X.calm = true) (hN : X.N.Nodup) (hvs : own.map (·.2) = vs) (hv : vsOk C.io ks vs = true)
    (ok : BlkOk X.N X.env.scope scope own) (hi : IOk X C ks tg iter fi)
    (hg : ∀ (s : Shared) (H : Hp) (A : Addr) (cl : List (Str × Addr)) (fp : List Addr), GvOk (X.blk s H scope (compEnvC scope cl A X.env) fp) C.blk ks vs tg h)
    (ht : ∀ (s : Shared) (H : Hp) (A : Addr) (cl : List (Str × Addr)) (fp : List Addr), TsOk (X.blk s H scope (compEnvC scope cl A X.env) fp) C.blk ks ifs t)
    (he : ∀ (s : Shared) (H : Hp) (A : Addr) (cl : List (Str × Addr)) (fp : List Addr), EOk (X.blk s H scope (compEnvC scope cl A X.env) fp) C.blk ks ek elt f)
    (hs : ∀ x, foldedSetIterable iter X.env x = pure x := by intro _; rfl) : EOk X C ks (cK ek) (.ListComp elt [⟨tg, iter, ifs, 0⟩] scope pos) (xComp fi h t f vs) := fun p G ρ σ F H Q S q => by
  subst hvs
  exact we_of (pe_lc hc hN pi_wi ok (fun s H A cl fp => ⟨fun pins s1 σ1 H1 v u Q1 I r z => (z s H A cl fp).run pins s1 u I r⟩) (fun s H A cl fp => ⟨fun pins s1 σ1 H1 Q1 I z => (z s H A cl fp).run pins s1 I⟩) (fun s H A cl fp => ⟨fun pins s1 σ1 H1 Q1 I z => (z s H A cl fp).run pins s1 I⟩) hs) (lc_run hek hv hi hg ht he S q)
/-- name = [..] on one line -/
theorem s_setLc (i : Nat) {ek : SK} {y : Str} {py : Pos} {elt tg iter : Expr} {ifs : List Expr} {scope : Scope} {own : List (Str × Nat)} {pos spos : Pos} {fi : Env → Out (List D)} {h : D → Env → Out Unit} {t : Env → Out Bool} {f : Env → Out D} (hek : ek = .im ∨ ek = .ml) (hc : X.calm = true) (hN : X.N.Nodup) (hvs : own.map (·.2) = vs) (hv : vsOk C.io ks vs = true)
    (ok : BlkOk X.N X.env.scope scope own) (hsw : swapsWith (.ListComp elt [⟨tg, iter, ifs, 0⟩] scope pos) (some (.Name y py)) spos.line X.env = pure true) (hi : IOk X C ks tg iter fi)
    (hg : ∀ (s : Shared) (H : Hp) (A : Addr) (cl : List (Str × Addr)) (fp : List Addr), GvOk (X.blk s H scope (compEnvC scope cl A X.env) fp) C.blk ks vs tg h)
    (ht : ∀ (s : Shared) (H : Hp) (A : Addr) (cl : List (Str × Addr)) (fp : List Addr), TsOk (X.blk s H scope (compEnvC scope cl A X.env) fp) C.blk ks ifs t)
    (he : ∀ (s : Shared) (H : Hp) (A : Addr) (cl : List (Str × Addr)) (fp : List Addr), EOk (X.blk s H scope (compEnvC scope cl A X.env) fp) C.blk ks ek elt f)
    (hy : X.N[i]? = some y := by rfl) (hyl : X.env.scope.names.lookup y = some .local := by rfl) (hlt : i < ks.length := by decide) (h0 : (C.io && decide (i = 0)) = false := by rfl) (hs : ∀ x, foldedSetIterable iter X.env x = pure x := by intro _; rfl) :
    SOk X C ks (ks.set i (cK ek)) (.Assign [.Name y py] (.ListComp elt [⟨tg, iter, ifs, 0⟩] scope pos) spos) (ySet i (xComp fi h t f vs)) := fun p G ρ σ F H Dn S q => by
  subst hvs
  refine ws_of (ps_setLc (g := fun v σ H Q => ∀ s H0 A cl fp, WG (X.blk s H0 scope (compEnvC scope cl A X.env) fp) tg v σ H Q) (tt := fun σ H Q => ∀ s H0 A cl fp, WTs (X.blk s H0 scope (compEnvC scope cl A X.env) fp) ifs σ H Q)
    (te := fun σ H Q => ∀ s H0 A cl fp, WE (X.blk s H0 scope (compEnvC scope cl A X.env) fp) elt σ H Q) hc hN hy hyl hsw pi_wi ok (fun s H A cl fp => ⟨fun pins s1 σ1 H1 v u Q1 I r z => (z s H A cl fp).run pins s1 u I r⟩) (fun s H A cl fp => ⟨fun pins s1 σ1 H1 Q1 I z => (z s H A cl fp).run pins s1 I⟩) (fun s H A cl fp => ⟨fun pins s1 σ1 H1 Q1 I z => (z s H A cl fp).run pins s1 I⟩) hs) ?_
  exact lc_run hek hv hi hg ht he S (q.bind.imp fun d ρ1 F1 H1 s q1 v r => q1 F1 H1 (Same.refl _) _ (SR.store hlt h0 r))
end
end De
set_option maxHeartbeats 4000000
/-! De10: a def keeps its promise; built-in functions. -/
namespace De
open PySem PySem.Spec L2
section
variable {P : Program} {w : World} {K : PySem.W.Frag} {mg : Str → Option Value} {base : Heap} {xt : Nat → Addr × Str}
theorem fnG_of {k : Nat} {f : Addr} {name qual : Str} {params : Arguments} {body : List Stmt} {scope : Scope} {dV kV doc pm cdv ct oc : Value} {an od : Option Addr} {osl : Array (Option Value)} {N ps : List Str} {sp : Sp}
    (look : K.lookup f = some ⟨oc, od, .func (PySem.W.fnOf name qual params body scope dV kV doc pm an cdv ct), osl⟩) (cod : PySem.W.codeIn K cdv qual = true) (sc : FnScope N ps scope) (len : ∀ vs H Q E, sp vs H Q E → vs.length = ps.length)
    (bd : ∀ (A : Around) (outer : List PySem.Env) (s : Shared) (H : Hp) (vs : List V) (Q : VK) (E : XK), A.guards = some [] → Room k (A.deeper (PyProof.Rows.envOfC qual scope s.heap.objs.size f cdv)) → sp vs H Q E →
      WSs (cxOf (L2.CX P w) P w K mg base N qual scope f cdv A outer s H E) body { nx := fun _ H' => Q .non H', rt := Q } (L2.start N vs) H) :
    FnG P w K mg base (k + 1) f (PySem.W.fnOf name qual params body scope dV kV doc pm an cdv ct) ps sp where
  len := len
  go := by
    intro A outer s H args us vs Q E gd rm e0 bn rv hs
    have nl := len _ _ _ _ hs
    have inK : K.In s.heap := PySem.W.Frag.In.keeps (h := base) e0.mod.kin (fun b o e => And.left (e0.bs b o e))
    have lim0 := (e0.mod.nolimit).keeps (fun b o e => And.left (e0.bs b o e))
    have kinds : ∀ y ∈ ps.zip us, scope.names.lookup y.1 = some .local ∨ (scope.names.lookup y.1 = some .cell ∧ ((cellsFrom (s.heap.objs.size + 1) scope.names []).lookup y.1).isSome = true) := by
      intro y hy
      have hm := (List.of_mem_zip (a := y.1) (b := y.2) hy).1
      exact (sc.par _ hm).imp id (fun c => ⟨c, PySem.W.cellsFrom_some _ _ _ (Or.inl c)⟩)
    apply codeAny_call_function rm.depth (inK _ _ look) rfl sc.co sc.gen rfl (PySem.W.codeRec_of inK cod)
    refine bn _ _ _ _ (wpAny_newFunctionEnv_cells sc.kind kinds (fun env ee s1 x => ?_))
    cases ee
    refine And.intro (lim0.keeps x.toInCall.keep) (codeAny_func ?_)
    have I0 := inv_start (CX := L2.CX P w) (E := E) sc rm.hd e0 nl rv x
    refine wpAny_mono ((bd A outer s H vs Q E gd (rm.deeper _) hs).run [] s1 I0) (fun fl s' z => ?_) (fun _ _ z => z)
    have done : ∀ σ' H' v u, L2.Inv (cxOf (L2.CX P w) P w K mg base N qual scope f cdv A outer s H E) [] σ' H' s' → RelV v u → Q v H' → CE outer P w H s Q u s' := by
      intro σ' H' v u J r q
      exact ⟨v, H', J.os, J.bare, J.base, J.hok, r, q⟩
    rcases fl with _ | _ | _ | u
    · obtain ⟨σ', H', J, q⟩ := z
      exact done σ' H' V.non Value.none J rfl q
    · obtain ⟨_, _, _, q⟩ := z
      exact q.elim
    · obtain ⟨_, _, _, q⟩ := z
      exact q.elim
    · obtain ⟨v, σ', H', J, r, q⟩ := z
      exact done σ' H' v u J r q
/-- a body's outcome as a def's -/
def runB (N n : Nat) (rm : SK) (b : Env → Out SO) : List D → Out D := fun ds => if ds.length = n then (b (ds.map some ++ List.replicate (N - n) none)).bind fun so ρ => match so with
    | .ret d => .ok d ρ
    | .nx => if rm = .im then .ok .none ρ else .bad
  else .bad
theorem runB_len {N n : Nat} {rm : SK} {b : Env → Out SO} : ∀ ds, ds.length ≠ n → runB N n rm b ds = .bad := fun ds h => if_neg h
theorem entry {io : Bool} {k0 kN : List SK} {p : Option Addr} {G F H : Hp} {ds : List D} {vs : List V} {N : List Str} {n : Nat} (hn : n ≤ N.length) (hv : vs.length = n) (hk : (List.range n).all (fun i => decide (kN.getD i .im = k0.getD i .im)) = true)
    (S : SR K io k0 p G [] (ds.map some) (vs.map some) F H) : SR K io kN p G [] (ds.map some ++ List.replicate (N.length - n) none) (L2.start N vs) F H := by
  have hd : ds.length = n := by have := S.len; simp at this; omega
  have hd' : (ds.map some).length = n := by simp [hd]
  have hv' : (vs.map some).length = n := by simp [hv]
  obtain ⟨fp, h1, h2, h3, h4⟩ := S.st
  refine ⟨S.same, ?_, S.pio, fun a ha => ?_, S.gs, S.gd, fp, fun i => ?_, h2, h3, h4⟩
  · unfold L2.start
    rw [List.length_append, List.length_append, hd', hv', List.length_replicate, List.length_replicate, hv]
  · unfold L2.start
    have := S.pin a ha
    rw [List.getElem?_append_left]
    · exact this
    · exact (List.getElem?_eq_some_iff.mp this).1
  · unfold L2.start
    by_cases hi : i < n
    · rw [List.getElem?_append_left (by rw [hd']; exact hi), List.getElem?_append_left (by rw [hv']; exact hi)]
      rw [of_decide_eq_true (List.all_eq_true.mp hk i (List.mem_range.mpr hi))]
      exact h1 i
    · have e : fp i = [] := by
        have z := h1 i
        rw [List.getElem?_eq_none (by rw [hd']; omega)] at z
        exact z.nil_of
      rw [e, List.getElem?_append_right (by rw [hd']; omega)]
      have : ((List.replicate (N.length - n) none : Env)[i - (ds.map some).length]?).join = none := by
        rw [List.getElem?_replicate]
        split <;> rfl
      rw [this]
      exact SlotR.none'
theorem fnD_of {x qual : Str} {st : Stmt} {f : Addr} {fd : FuncData} {N ps : List Str} {k : Nat} {df : Df} {b : Env → Out SO} (kN ke : List SK) (Fu : FunD K x qual (defArgs st) (defBody st) (defScope st) [] [] f fd) (sc : FnScope N ps (defScope st))
    (bd : ∀ (cdv : Value) (A : Around) (outer : List PySem.Env) (s : Shared) (H : Hp) (E : XK), A.guards = some [] → Room k (A.deeper (PyProof.Rows.envOfC qual (defScope st) s.heap.objs.size f cdv)) →
      SsOk (cxOf (L2.CX P w) P w K mg base N qual (defScope st) f cdv A outer s H E) { xt := xt, W := fun cls da _ H' => E cls da H', io := df.io, kx := df.kx, rm := df.rm } kN ke (defBody st) b)
    (hk : (List.range ps.length).all (fun i => decide (kN.getD i .im = df.k0.getD i .im)) = true := by decide) (hkf : kfb df.io df.kx ke = true := by decide) : FnD P w K mg base xt (k + 1) f fd ps df (runB N.length ps.length df.rm b) := by
  obtain ⟨oc, od, dV, kV, doc, pm, an, cdv, ct, osl, rfl, lk, hcd, _, _⟩ := Fu.ex
  have hn : ps.length ≤ N.length := by
    have := congrArg List.length sc.pre
    rw [List.length_take] at this
    omega
  refine fnG_of lk hcd sc (fun vs H Q E ⟨_, _, _, _, h, _⟩ => h) fun A outer s H vs Q E gd rm ⟨p, G, ds, F, hv, S, q⟩ => ?_
  have hd : ds.length = ps.length := by have := S.len; simp at this; omega
  refine bd cdv A outer s H E gd rm p G _ (L2.start N vs) F H _ (entry hn hv hk S) ?_
  unfold runB at q
  rw [if_pos hd] at q
  refine PostG.imp2 (PostG.bind q) fun so ρ F1 H1 s1 q1 => ?_
  cases so with
  | ret d => exact fun σ v r => q1 F1 (Same.refl _) F1 H1 (Same.refl _) σ v r
  | nx =>
    intro σ S1
    obtain ⟨F2, s2, S2, _⟩ := SR.kf hkf S1
    have q2 := q1 F2 s2
    dsimp only at q2
    split at q2
    · rename_i e
      have r : ROk K df.io df.kx p G ρ σ df.rm .none F2 H1 .non := by rw [e]; exact ROk.of S2 .non
      exact q2 F2 H1 (Same.refl _) σ .non r
    · exact q2.elim
end
/-! ### built-in functions -/
section
variable {X : Cx}
theorem CallD.flat {fv : Value} {g : List D → Option D} (h : ∀ F H xs ds d (Q : VK), Same F H → RepA X.K F xs ds → g ds = some d → ∃ z, Rep X.K F z d ∧ (Q z H → WC X fv xs H Q)) : CallD X fv g := fun F H xs ds d Q s r e q => by
  obtain ⟨z, rz, w⟩ := h F H xs ds d Q s r e
  exact w (q F H z (Grow.refl s) rz)
/-- one argument -/
theorem CallD.one {fv : Value} {g1 : D → Option D} (h : ∀ F H x dx d (Q : VK), Same F H → Rep X.K F x dx → g1 dx = some d → (∀ F' H' z, Grow F H F' H' → Rep X.K F' z d → Q z H') → WC X fv [x] H Q) : CallD X fv (fun ds => match ds with
    | [d] => g1 d
    | _ => none) := fun F H xs ds d Q s r e q => by
  cases r with
  | nil => cases e
  | cons r1 r2 => cases r2 with
    | nil => exact h F H _ _ d Q s r1 e q
    | cons _ _ => cases e
theorem CallD.two {fv : Value} {g2 : D → D → Option D} (h : ∀ F H x y dx dy d (Q : VK), Same F H → Rep X.K F x dx → Rep X.K F y dy → g2 dx dy = some d → (∀ F' H' z, Grow F H F' H' → Rep X.K F' z d → Q z H') → WC X fv [x, y] H Q) : CallD X fv (fun ds => match ds with
    | [d, e] => g2 d e
    | _ => none) := fun F H xs ds d Q s r e q => by
  cases r with
  | nil => cases e
  | cons r1 r2 => cases r2 with
    | nil => cases e
    | cons r2 r3 => cases r3 with
      | nil => exact h F H _ _ _ _ d Q s r1 r2 e q
      | cons _ _ => cases e
def on1 (g1 : D → Option D) : List D → Option D := fun ds => match ds with
  | [d] => g1 d
  | _ => none
def on2 (g2 : D → D → Option D) : List D → Option D := fun ds => match ds with
  | [d, e] => g2 d e
  | _ => none
def lenD : D → Option D
  | .str z => if z.length ≤ sizeLine then some (.int z.length) else none
  | .list ds => some (.int ds.length)
  | .tuple ds => some (.int ds.length)
  | _ => none
theorem c_len : CallD X (.builtin "len") (on1 lenD) := CallD.one fun F H x dx d Q s r e q => by
  cases r with
  | str z =>
    simp only [lenD] at e
    split at e
    · rename_i h
      cases e
      exact wc_of call_len_str ⟨z, rfl, h, q F H _ (Grow.refl s) (.int _)⟩
    · cases e
  | lst h1 r1 =>
    cases e
    exact wc_of call_len_seq ⟨_, _, rfl, .inl (.inl (.inl (s _ _ h1))), q F H _ (Grow.refl s) (by rw [r1.length]; exact .int _)⟩
  | tup h1 r1 =>
    cases e
    exact wc_of call_len_seq ⟨_, _, rfl, .inr (Same.sqT s h1), q F H _ (Grow.refl s) (by rw [r1.length]; exact .int _)⟩
  | _ => cases e
theorem cs_len : CallS X (.builtin "len") (fun ds => some (.int ds.length)) := fun F H a xs ds d Q s hs r e q => by
  cases e
  exact wc_of call_len_seq ⟨a, xs, rfl, .inl hs, q _ (by rw [r.length]; exact .int _)⟩
def absD : D → Option D
  | .int i => some (.int (if i < 0 then -i else i))
  | _ => none
theorem c_abs : CallD X (.builtin "abs") (on1 absD) := CallD.one fun F H x dx d Q s r e q => by
  cases r with
  | int i => cases e; exact wc_of call_abs ⟨i, rfl, q F H _ (Grow.refl s) (.int _)⟩
  | _ => cases e
def intD : D → Option D
  | .int i => some (.int i)
  | .bool b => some (.int (if b = true then 1 else 0))
  | .str x => if x.length ≤ 640 then (PySem.intText? x).map .int else none
  | _ => none
theorem c_int : CallD X (.type "int") (on1 intD) := CallD.one fun F H x dx d Q s r e q => by
  cases r with
  | int i => cases e; exact wc_of call_int1 (.inl ⟨i, rfl, q F H _ (Grow.refl s) (.int _)⟩)
  | bl b => cases e; exact wc_of call_int1 (.inr ⟨b, rfl, q F H _ (Grow.refl s) (.int _)⟩)
  | str x =>
    simp only [intD] at e
    split at e
    · rename_i h
      cases hn : PySem.intText? x with
      | none => rw [hn] at e; cases e
      | some n =>
        rw [hn] at e
        cases e
        exact wc_of call_int_str ⟨x, n, rfl, hn, h, q F H _ (Grow.refl s) (.int _)⟩
    · cases e
  | _ => cases e
def strD : D → Option D
  | .int i => if i.natAbs.log2 < 1920 then some (.str (Str.ofString (toString i))) else none
  | _ => none
theorem c_str : CallD X (.type "str") (on1 strD) := CallD.one fun F H x dx d Q s r e q => by
  cases r with
  | int i =>
    simp only [strD] at e
    split at e
    · rename_i h
      cases e
      exact wc_of call_str_int ⟨i, rfl, h, q F H _ (Grow.refl s) (.str _)⟩
    · cases e
  | _ => cases e
def max2D : D → D → Option D
  | .int i, .int j => some (.int (if j > i then j else i))
  | _, _ => none
def min2D : D → D → Option D
  | .int i, .int j => some (.int (if j < i then j else i))
  | _, _ => none
theorem c_max2 (hc : X.calm = true) : CallD X (.builtin "max") (on2 max2D) := CallD.two fun F H x y dx dy d Q s r r' e q => by
  cases r with
  | int i => cases r' with
    | int j => cases e; exact wc_of (call_max2 hc) ⟨i, j, rfl, q F H _ (Grow.refl s) (.int _)⟩
    | _ => cases e
  | _ => cases e
theorem c_min2 (hc : X.calm = true) : CallD X (.builtin "min") (on2 min2D) := CallD.two fun F H x y dx dy d Q s r r' e q => by
  cases r with
  | int i => cases r' with
    | int j => cases e; exact wc_of (call_min2 hc) ⟨i, j, rfl, q F H _ (Grow.refl s) (.int _)⟩
    | _ => cases e
  | _ => cases e
def divmodD : D → D → Option D
  | .int i, .int j => if decide (0 < j) && decide (j < 1073741824) then some (.tuple [.int (i / j), .int (i % j)]) else none
  | _, _ => none
theorem c_divmod : CallD X (.builtin "divmod") (on2 divmodD) := CallD.two fun F H x y dx dy d Q s r r' e q => by
  cases r with
  | int i => cases r' with
    | int j =>
      simp only [divmodD] at e
      split at e
      · rename_i h
        cases e
        simp only [Bool.and_eq_true, decide_eq_true_eq] at h
        exact wc_of call_divmod ⟨i, j, rfl, h, fun p hp => grow_tup s hp (.cons (.int _) (.cons (.int _) .nil)) q⟩
      · cases e
    | _ => cases e
  | _ => cases e
/-- lists of ints, of bools, of texts, read off -/
def intsOf : List D → Option (List Int)
  | [] => some []
  | .int i :: r => (intsOf r).map (i :: ·)
  | _ => none
def boolsOf : List D → Option (List Bool)
  | [] => some []
  | .bool b :: r => (boolsOf r).map (b :: ·)
  | _ => none
def strsOf : List D → Option (List Str)
  | [] => some []
  | .str b :: r => (strsOf r).map (b :: ·)
  | _ => none
section
variable {K : PySem.W.Frag} {F : Hp}
theorem RepA.ints' : ∀ {vs : List V} {ds : List D} {ns : List Int}, RepA K F vs ds → intsOf ds = some ns → vs = ns.map V.int
  | _, [], ns, h, e => by cases h; cases e; rfl
  | _, d :: ds, ns, h, e => by
    cases h with
    | cons h1 h2 =>
      cases h1 with
      | int i =>
        simp only [intsOf] at e
        cases hr : intsOf ds with
        | none => rw [hr] at e; cases e
        | some ms => rw [hr] at e; cases e; rw [RepA.ints' h2 hr]; rfl
      | _ => cases e
theorem RepA.bools : ∀ {vs : List V} {ds : List D} {ns : List Bool}, RepA K F vs ds → boolsOf ds = some ns → vs = ns.map V.bl
  | _, [], ns, h, e => by cases h; cases e; rfl
  | _, d :: ds, ns, h, e => by
    cases h with
    | cons h1 h2 =>
      cases h1 with
      | bl i =>
        simp only [boolsOf] at e
        cases hr : boolsOf ds with
        | none => rw [hr] at e; cases e
        | some ms => rw [hr] at e; cases e; rw [RepA.bools h2 hr]; rfl
      | _ => cases e
theorem RepA.strs' : ∀ {vs : List V} {ds : List D} {ns : List Str}, RepA K F vs ds → strsOf ds = some ns → vs = ns.map V.str
  | _, [], ns, h, e => by cases h; cases e; rfl
  | _, d :: ds, ns, h, e => by
    cases h with
    | cons h1 h2 =>
      cases h1 with
      | str i =>
        simp only [strsOf] at e
        cases hr : strsOf ds with
        | none => rw [hr] at e; cases e
        | some ms => rw [hr] at e; cases e; rw [RepA.strs' h2 hr]; rfl
      | _ => cases e
theorem RepA.ofStrs : ∀ (ns : List Str), RepA K F (ns.map V.str) (ns.map PyData.str)
  | [] => .nil
  | n :: ns => .cons (.str n) (RepA.ofStrs ns)
end
def sumL (ds : List D) : Option D := (intsOf ds).map fun ns => .int ns.sum
def maxL : List Int → Option Int
  | [] => none
  | x :: r => some (r.foldl (fun a b => if b > a then b else a) x)
theorem maxL_eq : ∀ (r : List Int) (x m : Int), m ∈ x :: r → (∀ y ∈ x :: r, y ≤ m) → r.foldl (fun a b => if b > a then b else a) x = m
  | [], x, m, h, _ => by simp at h; exact h.symm
  | y :: r, x, m, h, g => by
    rw [List.foldl_cons]
    have gx := g x (by simp)
    have gy := g y (by simp)
    refine maxL_eq r _ m ?_ ?_
    · rcases List.mem_cons.mp h with e | h
      · rw [if_neg (by omega)]; rw [e]; exact List.mem_cons_self
      · rcases List.mem_cons.mp h with e | h
        · by_cases z : y > x
          · rw [if_pos z, e]; exact List.mem_cons_self
          · rw [if_neg z]
            have : x = m := by omega
            rw [this]; exact List.mem_cons_self
        · exact List.mem_cons_of_mem _ h
    · intro z hz
      rcases List.mem_cons.mp hz with e | hz
      · rw [e]; split <;> assumption
      · exact g z (by simp [hz])
def maxD (ds : List D) : Option D := (intsOf ds).bind fun ns => (maxL ns).map .int
def anyL (ds : List D) : Option D := (boolsOf ds).map fun bs => .bool (bs.any id)
def allL (ds : List D) : Option D := (boolsOf ds).map fun bs => .bool (bs.all id)
def onL (g : List D → Option D) : D → Option D
  | .list ds => g ds
  | _ => none
theorem cs_sum (hc : X.calm = true) : CallS X (.builtin "sum") sumL := fun F H a xs ds d Q s hs r e q => by
  unfold sumL at e
  cases hn : intsOf ds with
  | none => rw [hn] at e; cases e
  | some ns =>
    rw [hn] at e
    cases e
    have ex := r.ints' hn
    subst ex
    exact wc_of (cr_sum hc) ⟨a, ns, rfl, hs, q _ (.int _)⟩
theorem cs_max (hc : X.calm = true) : CallS X (.builtin "max") maxD := fun F H a xs ds d Q s hs r e q => by
  unfold maxD at e
  cases hn : intsOf ds with
  | none => rw [hn] at e; cases e
  | some ns =>
    rw [hn] at e
    have ex := r.ints' hn
    subst ex
    cases ns with
    | nil => cases e
    | cons x r' =>
      cases e
      refine wc_of (cr_max hc) ⟨a, x :: r', rfl, hs, by simp, fun m h1 h2 => ?_⟩
      have := maxL_eq r' x m h1 h2
      exact q _ (by rw [this]; exact .int _)
theorem cs_any (hc : X.calm = true) : CallS X (.builtin "any") anyL := fun F H a xs ds d Q s hs r e q => by
  unfold anyL at e
  cases hn : boolsOf ds with
  | none => rw [hn] at e; cases e
  | some ns =>
    rw [hn] at e
    cases e
    have ex := r.bools hn
    subst ex
    exact wc_of (cr_any hc) ⟨a, ns, rfl, hs, q _ (.bl _)⟩
theorem cs_all (hc : X.calm = true) : CallS X (.builtin "all") allL := fun F H a xs ds d Q s hs r e q => by
  unfold allL at e
  cases hn : boolsOf ds with
  | none => rw [hn] at e; cases e
  | some ns =>
    rw [hn] at e
    cases e
    have ex := r.bools hn
    subst ex
    exact wc_of (cr_all hc) ⟨a, ns, rfl, hs, q _ (.bl _)⟩
/-- the same of a list as data -/
theorem CallS.d {fv : Value} {g : List D → Option D} (h : CallS X fv g) : CallD X fv (on1 (onL g)) := CallD.one fun F H x dx d Q s r e q => by
  cases r with
  | lst h1 r1 => exact h F H _ _ _ d Q s (.inl (.inl (s _ _ h1))) r1 e fun z rz => q F H z (Grow.refl s) rz
  | _ => cases e
def listD : List D → Option (List D) := fun ds => match ds with
  | [.list xs] => some xs
  | [.tuple xs] => some xs
  | _ => none
theorem c_list : CallL X (.type "list") listD := fun F H xs ds d Q s r e q => by
  cases r with
  | nil => cases e
  | cons r1 r2 => cases r2 with
    | cons _ _ => cases r1 <;> cases e
    | nil => cases r1 with
      | lst h1 t1 => cases e; exact wc_of call_list_of ⟨_, _, rfl, .inl (.inl (.inl (s _ _ h1))), fun l hl => q l _ hl t1⟩
      | tup h1 t1 => cases e; exact wc_of call_list_of ⟨_, _, rfl, .inr (Same.sqT s h1), fun l hl => q l _ hl t1⟩
      | _ => cases e
def tupD : D → Option D
  | .list xs => some (.tuple xs)
  | .tuple xs => some (.tuple xs)
  | _ => none
theorem c_tuple : CallD X (.type "tuple") (on1 tupD) := CallD.one fun F H x dx d Q s r e q => by
  cases r with
  | lst h1 t1 => cases e; exact wc_of call_tuple_of ⟨_, _, rfl, .inl ⟨.inl (.inl (s _ _ h1)), fun l hl => grow_tup s hl t1 q⟩⟩
  | tup h1 t1 => cases e; exact wc_of call_tuple_of ⟨_, _, rfl, .inr ⟨Same.sqT s h1, q F H _ (Grow.refl s) (.tup h1 t1)⟩⟩
  | _ => cases e
/-! ### repr -/
def reprOk (d : D) : Bool := d.canLay0 && d.showable && decide (d.depth ≤ 40) && decide (d.shown.length ≤ sizeLine)
def reprD : D → Option D := fun d => if reprOk d then some (.str d.shown) else none
theorem c_repr (hgd : X.A.guards = some []) (hu : X.A.units + 64 < cLine) : CallD X (.builtin "repr") (on1 reprD) := CallD.one fun F H x dx d Q s r e q => by
  unfold reprD at e
  split at e
  case isFalse => cases e
  rename_i h
  cases e
  simp only [reprOk, Bool.and_eq_true, decide_eq_true_eq] at h
  obtain ⟨⟨⟨h1, h2⟩, h3⟩, h4⟩ := h
  have q' := fun z => q F H z (Grow.refl s)
  refine ⟨?_⟩
  intro pins st σ us I rv
  have dp := r.dp s _ _ h1
  obtain ⟨u, rfl, ru⟩ := rv.one
  obtain ⟨as, rd⟩ := Dp.reads I dx x u dp ru
  have fin : ∀ (h' : Heap) (t : Tok) (tk : Nat), (∀ b o, st.heap.get? b = some o → h'.get? b = some o) → EP X pins σ Q (.str dx.shown t) { st with heap := h', toks := tk } := fun h' t tk k => ⟨.str dx.shown, H, I.kept k, ⟨t, rfl⟩, q' _ (.str _)⟩
  have self : ∀ (t : Tok) (tk : Nat), EP X pins σ Q (.str dx.shown t) { st with toks := tk } := fun t tk => ⟨.str dx.shown, H, I.tok _, ⟨t, rfl⟩, q' _ (.str _)⟩
  cases r with
  | non => cases ru; exact P.repr_of_none (self _ _)
  | bl b =>
    cases ru
    refine P.repr_of_bool ?_
    have := self st.toks (st.toks + 1)
    cases b <;> exact this
  | int i =>
    obtain ⟨t, rfl⟩ := ru
    refine P.repr_of_int (by simpa [PyData.showable] using h2) (self _ _)
  | str x =>
    obtain ⟨t, rfl⟩ := ru
    exact P.repr_of_str (self _ _) h4
  | _ =>
    cases ru
    exact repr_of_reads' rd h2 (fun z => by rw [PyData.hasDict_of_canLay _ h1] at z; cases z) hgd (by omega) (fun _ _ z => z) (fun h' u tk k => fin h' u tk k) h4
end
end De
set_option maxHeartbeats 4000000
/-! De11: zip of a tuple and a list. -/
namespace De
open PySem PySem.Spec L2
section
variable {P : Program} {w : World} {K : PySem.W.Frag}
/-- turn by turn, a tuple at a beside a list at b -/
def ItzM (K : PySem.W.Frag) (a b : Addr) : It where
  go := fun i H => ∃ (xs ys : List V) (x y : V), SqT K H a xs ∧ SqL K H b ys ∧ xs[i]? = some x ∧ ys[i]? = some y
  yld := fun i H v H' => ∃ T x y, v = .ref T ∧ H T = none ∧ H' = upd H T (.tup [x, y]) ∧ (∀ xs, SqT K H a xs → xs[i]? = some x) ∧ ∀ ys, SqL K H b ys → ys[i]? = some y
  stop := fun i H => ∃ xs ys : List V, SqT K H a xs ∧ SqL K H b ys ∧ i ≤ xs.length ∧ i ≤ ys.length ∧ (xs.length ≤ i ∨ ys.length ≤ i)
def ZMs (z TI TO i1 i2 a b : Addr) (i : Nat) (h : Heap) : Prop := IsZip h z TI TO .none ∧ IsTupOf2 h TI (.ref i1) (.ref i2) ∧ (∃ x y, IsTupOf2 h TO x y) ∧ h.IsTupleIter i1 a i ∧ h.IsListIter i2 b i
theorem zm_five {z TI TO i1 i2 c : Addr} (h : c ∈ [z, TI, TO, i1, i2]) : c = z ∨ c = TI ∨ c = TO ∨ c = i1 ∨ c = i2 := by simpa using h
theorem zm_there {z TI TO i1 i2 a b : Addr} {i : Nat} {h : Heap} (st : ZMs z TI TO i1 i2 a b i h) {c : Addr} (hc : c ∈ [z, TI, TO, i1, i2]) : ∃ o, h.get? c = some o ∧ ∀ v, o.data ≠ .cell v := by
  obtain ⟨s1, s2, ⟨x, y, s3⟩, ⟨oa, ea, _, da⟩, ⟨ob, eb, _, db⟩⟩ := st
  rcases zm_five hc with rfl | rfl | rfl | rfl | rfl
  · exact ⟨_, s1, fun v => nofun⟩
  · exact ⟨_, s2, fun v => nofun⟩
  · exact ⟨_, s3, fun v => nofun⟩
  · exact ⟨oa, ea, fun v n => by rw [da] at n; cases n⟩
  · exact ⟨ob, eb, fun v n => by rw [db] at n; cases n⟩
theorem turn_zipM {elts : List Expr} {kk : Nat} {tpos : Pos} {a b z TI TO i1 i2 : Addr} (Z : ZipSep2 z TI TO i1 i2 [i1, a] [i2, b]) :
    Turn P w K (.Tuple elts kk tpos) (ItzM K a b) [z, TI, TO, i1, i2] z (ZMs z TI TO i1 i2 a b) where
  mem := List.mem_cons_self
  obj := fun i h st c hc => zm_there st hc
  keep := fun i h h' st k => by
    obtain ⟨s1, s2, ⟨x, y, s3⟩, s4, s5⟩ := st
    refine ⟨k z (by simp) _ s1, k TI (by simp) _ s2, ⟨x, y, k TO (by simp) _ s3⟩, s4.at fun o e => k i1 (by simp) o e, s5.at fun o e => k i2 (by simp) o e⟩
  item := by
    intro X hP hw hK hc i pins s σ H E I hf st hg
    subst hP hw hK
    obtain ⟨s1, s2, ⟨x0, y0, s3⟩, s4, s5⟩ := id st
    obtain ⟨xs, ys, x, y, qx, qy, ex, ey⟩ := hg
    obtain ⟨its, rx, tx, _⟩ := I.tuple qx
    obtain ⟨jts, ry, ty, _⟩ := I.list qy
    obtain ⟨u, eu, ru⟩ := rx.get ex
    obtain ⟨v, ev, rv⟩ := ry.get ey
    have na : a ≠ i1 := fun e => by
      obtain ⟨o, e1, c1, d1⟩ := s4
      obtain ⟨o2, e2, c2, _⟩ := tx
      rw [e, e1] at e2
      cases e2
      rw [c1] at c2
      exact absurd c2 (by decide)
    have nb : b ≠ i2 := fun e => by
      obtain ⟨o, e1, c1, d1⟩ := s5
      obtain ⟨o2, n2, e2, c2, _⟩ := ty
      rw [e, e1] at e2
      cases e2
      rw [c1] at c2
      exact absurd c2 (by decide)
    have lz : z < s.heap.objs.size := Heap.lt_size s1
    have hd := I.ok.hd hc
    have hd1 : X.A.in1.handled = none := hd
    refine wpAny_pyNext_zipD2_item Z (Draws.tuple hd1 i1 a na its.toArray) (Draws.list hd1 i2 b nb jts.toArray) s1 s2 s3 ⟨s4, tx⟩ ⟨s5, ty.isList⟩ ?_ ?_ ?_
    · have := (List.getElem?_eq_some_iff.mp eu).1
      simpa using this
    · have := (List.getElem?_eq_some_iff.mp ev).1
      simpa using this
    intro u' v' h' tk pu pv z' t' a1 a2 hT hsz hk
    have eu' : u' = u := Option.some.inj (pu.symm.trans (by simpa using eu))
    have ev' : v' = v := Option.some.inj (pv.symm.trans (by simpa using ev))
    subst eu' ev'
    refine ⟨_, rfl, wpAny_letOwnedTupleGo_zip (s := { s with heap := h', toks := tk }) z' fun g z2 sb => ?_⟩
    have gT : g.get? s.heap.objs.size = some { cls := .type "tuple", data := .seq #[u', v'] } := (sb.2 _ (Nat.ne_of_gt lz)).trans hT
    have five : ∀ c, c ∉ [z, TI, TO, i1, i2] → c ≠ z ∧ c ≠ TO ∧ c ≠ i1 ∧ c ≠ i2 := fun c hc => by
      simp only [List.mem_cons, List.not_mem_nil, or_false, not_or] at hc
      exact ⟨hc.1, hc.2.2.1, hc.2.2.2.1, hc.2.2.2.2⟩
    have I1 : L2.Inv X pins σ (upd H s.heap.objs.size (.tup [x, y])) { s with heap := g, toks := tk } :=
      I.turnedNew (ch := [z, TI, TO, i1, i2]) (fun c o hb q => by
        obtain ⟨n1, n2, n3, n4⟩ := five c hb
        exact (sb.2 c n1).trans (hk c o n1 n2 n3 n4 q)) hf (Nat.le_refl _) ⟨by show 2 ≤ sizeLine; decide, [u', v'], .cons ru (.cons rv .nil), _, gT, rfl, _, rfl⟩
    refine ⟨.ref s.heap.objs.size, _, I1, rfl, ⟨_, x, y, rfl, I.hok.fresh (Nat.le_refl _), rfl, fun l hl => ?_, fun l hl => ?_⟩, ⟨z2, (sb.2 _ Z.TIz).trans (hk _ _ Z.TIz Z.TITO Z.TIi1 Z.TIi2 s2), ⟨u', v', (sb.2 _ Z.TOz).trans t'⟩, a1.1.at fun o q => (sb.2 _ Z.zi1.symm).trans q, a2.1.at fun o q => (sb.2 _ Z.zi2.symm).trans q⟩, fun c hcm => ?_⟩
    · rw [I.tuple_inj hl qx]; exact ex
    · rw [I.list_inj hl qy]; exact ey
    · obtain ⟨o, eo, _⟩ := zm_there st hcm
      rw [upd_ne (Nat.ne_of_lt (Heap.lt_size eo))]
      exact (hf c hcm).1
  done := by
    intro X hP hw hK hc i pins s σ H E I hf st hg
    subst hP hw hK
    obtain ⟨s1, s2, ⟨x0, y0, s3⟩, s4, s5⟩ := id st
    obtain ⟨xs, ys, qx, qy, l1, l2, hend⟩ := hg
    obtain ⟨its, rx, tx, _⟩ := I.tuple qx
    obtain ⟨jts, ry, ty, _⟩ := I.list qy
    have na : a ≠ i1 := fun e => by
      obtain ⟨o, e1, c1, d1⟩ := s4
      obtain ⟨o2, e2, c2, _⟩ := tx
      rw [e, e1] at e2
      cases e2
      rw [c1] at c2
      exact absurd c2 (by decide)
    have nb : b ≠ i2 := fun e => by
      obtain ⟨o, e1, c1, d1⟩ := s5
      obtain ⟨o2, n2, e2, c2, _⟩ := ty
      rw [e, e1] at e2
      cases e2
      rw [c1] at c2
      exact absurd c2 (by decide)
    have hd1 : X.A.in1.handled = none := I.ok.hd hc
    have k1 := rx.length
    have k2 := ry.length
    have five : ∀ c, c ∉ [z, TI, TO, i1, i2] → c ≠ z ∧ c ≠ TO ∧ c ≠ i1 ∧ c ≠ i2 := fun c hc => by
      simp only [List.mem_cons, List.not_mem_nil, or_false, not_or] at hc
      exact ⟨hc.1, hc.2.2.1, hc.2.2.2.1, hc.2.2.2.2⟩
    refine wpAny_pyNext_zipD2_end Z (Draws.tuple hd1 i1 a na its.toArray) (Draws.list hd1 i2 b nb jts.toArray) s1 s2 s3 ⟨s4, tx⟩ ⟨s5, ty.isList⟩ (by simp; omega) (by simp; omega) (by simp; omega) ?_
    intro h' tk hk
    refine ⟨rfl, I.turnedL (ch := [z, TI, TO, i1, i2]) (fun c o hb q => ?_) hf⟩
    obtain ⟨n1, n2, n3, n4⟩ := five c hb
    exact hk c o n1 n2 n3 n4 q
  self := fun A i s Q E st h => wpAny_pyIter_zip st.1 h
end
section
variable {X : Cx} {C : Cs} {ks : List SK} {a b : Expr} {pos : Pos}
def zipMD : List D → Option (List D)
  | [.tuple xs, .list ys] => some (List.zipWith (fun x y => .tuple [x, y]) xs ys)
  | _ => none
theorem it_zipM {K : PySem.W.Frag} {F : Hp} {q q' : Addr} {xs ys : List V} {ds es : List D} (h : SqT K F q xs) (r : RepA K F xs ds) (h' : F q' = some (.lst ys)) (r' : RepA K F ys es) : ItD K F (ItzM K q q') (List.zipWith (fun x y => .tuple [x, y]) ds es) where
  go := fun i F1 H1 s s' hi => by
    rw [List.length_zipWith] at hi
    obtain ⟨v, ev, _⟩ := r.get (List.getElem?_eq_getElem (show i < ds.length by omega))
    obtain ⟨u, eu, _⟩ := r'.get (List.getElem?_eq_getElem (show i < es.length by omega))
    exact ⟨xs, ys, v, u, Same.sqT (s.trans s') h, .inl (.inl (s' _ _ (s _ _ h'))), ev, eu⟩
  stop := fun i F1 H1 s s' hi => by
    rw [List.length_zipWith] at hi
    refine ⟨xs, ys, Same.sqT (s.trans s') h, .inl (.inl (s' _ _ (s _ _ h'))), ?_, ?_, ?_⟩
    · rw [r.length]; omega
    · rw [r'.length]; omega
    · rw [r.length, r'.length]; omega
  yld := fun i F1 H1 v H' d s s' hd y => by
    obtain ⟨T, x, z, e1, hT, e2, y1, y2⟩ := y
    subst e1 e2
    rw [List.getElem?_zipWith] at hd
    cases hx : ds[i]? with
    | none => rw [hx] at hd; cases hd
    | some dx =>
      cases hz : es[i]? with
      | none => rw [hx, hz] at hd; cases hd
      | some dz =>
        rw [hx, hz] at hd
        cases hd
        obtain ⟨v, ev, rv⟩ := r.get hx
        obtain ⟨u, eu, ru⟩ := r'.get hz
        have ex : v = x := Option.some.inj (ev.symm.trans (y1 xs (Same.sqT (s.trans s') h)))
        have ez : u = z := Option.some.inj (eu.symm.trans (y2 ys (.inl (.inl (s' _ _ (s _ _ h'))))))
        rw [ex] at rv
        rw [ez] at ru
        have sn := same_new (o := HO.tup [x, z]) (same_not s' hT)
        exact ⟨_, Grow.alloc s' hT, .tup (.inl (.inl upd_same)) (.cons ((rv.up s).up sn) (.cons ((ru.up s).up sn) .nil))⟩
theorem pi_zipM {e e2 : Expr} {ta : TA} {p pos tpos : Pos} {elts : List Expr} {kk : Nat} (hg : Gl X "zip") (hm : X.mg "zip" = none) (ha : PA X [e, e2] ta) (hs : starEach [e, e2] X.env = (false, eval e X.env) :: starEach [e2] X.env)
    (hpl : (backTo pos (starEach [e2] X.env)).any (·.1) = false) : PI X (.Tuple elts kk tpos) (.Call (.Name "zip" p) [e, e2] [] pos) (fun σ H R => ta σ H fun vs H1 => ∃ a b xs ys, vs = [.ref a, .ref b] ∧ SqT X.K H1 a xs ∧ SqL X.K H1 b ys ∧ R (ItzM X.K a b) H1) where
  run := by
    intro pins s σ H R I h
    refine PyProof.Rows.Call_ (ld_blt I hg hm PyProof.Rows.boot_zip (PyProof.Rows.callWith_type1 (thn (ha.run pos pins s σ H _ I h) fun us s1 h1 => ?_) hs hpl))
    obtain ⟨vs, H1, I1, r1, a, b, xs, ys, ex, qx, qy, q⟩ := h1
    subst ex
    obtain ⟨its, rx, tx, _⟩ := I1.tuple qx
    obtain ⟨jts, ry, ty, _⟩ := I1.list qy
    have la : a < s1.heap.objs.size := let ⟨_, e, _⟩ := tx; Heap.lt_size e
    have lb : b < s1.heap.objs.size := let ⟨_, _, e, _⟩ := ty; Heap.lt_size e
    cases r1 with
    | cons ra rr => cases rr with
      | cons rb rr =>
        cases rr
        cases ra
        cases rb
        refine zip_begins2 (begins_tuple a its.toArray) (begins_list b jts.toArray) tx ty.isList fun h' z1 z2 z3 z4 z5 hsz hk => wpAny_pyIter_zip z1 ?_
        have I2 : L2.Inv X pins σ H1 { s1 with heap := h' } := I1.kept (t' := s1.toks) hk
        refine ⟨s1.heap.objs.size + 4, [s1.heap.objs.size + 4, s1.heap.objs.size + 2, s1.heap.objs.size + 3, s1.heap.objs.size, s1.heap.objs.size + 1], _, _, H1, rfl, I2, turn_zipM (zip_sep2 (N := s1.heap.objs.size) (fp1 := [a]) (fp2 := [b]) (by simpa using la) (by simpa using lb)), ⟨z1, z2, ⟨_, _, z3⟩, ⟨_, z4, rfl, rfl⟩, ⟨_, z5, rfl, rfl⟩⟩, fun c hc => ?_, q⟩
        have hle : s1.heap.objs.size ≤ c := by
          rcases zm_five hc with e | e | e | e | e <;> (rw [e]; first | exact Nat.le_refl _ | exact Nat.le_add_right _ _)
        exact I1.fpOk hle (I1.hok.fresh hle)
theorem i_zipM {elts : List Expr} {kk : Nat} {tpos p' : Pos} {fs : Env → Out (List D)} (hm : X.mg "zip" = none) (ha : AOk X C ks [a, b] fs) (hg : Gl X "zip" := by rfl) (hs : starEach [a, b] X.env = (false, eval a X.env) :: starEach [b] X.env := by rfl)
    (hpl : (backTo pos (starEach [b] X.env)).any (·.1) = false := by rfl) : IOk X C ks (.Tuple elts kk tpos) (.Call (.Name "zip" p') [a, b] [] pos) (xRng zipMD fs) := fun p G ρ σ F H R S q => by
  refine wi_of (pi_zipM hg hm pa_wa hs hpl) ?_
  refine ha.then S q fun ds ρ1 F1 H1 vs s1 S1 r1 q1 => ?_
  obtain ⟨zs, e, q2⟩ := post_lift (β := Unit) q1
  cases r1 with
  | nil => cases e
  | cons r1 r2 =>
    cases r2 with
    | nil => cases r1 <;> cases e
    | cons r2 r3 =>
      cases r3 with
      | cons _ _ => cases r1 <;> cases r2 <;> cases e
      | nil =>
        cases r1 with
        | tup h1 t1 => cases r2 with
          | lst h2 t2 =>
            cases e
            exact ⟨_, _, _, _, rfl, Same.sqT S1.same h1, .inl (.inl (S1.same _ _ h2)), q2 F1 H1 (Same.refl _) _ S1 (it_zipM h1 t1 h2 t2)⟩
          | _ => cases e
        | _ => cases r2 <;> cases e
end
end De
set_option maxHeartbeats 4000000
/-! De12: own slots compared, two names at once, dicts, isinstance, sorted, methods of texts. -/
namespace De
open PySem PySem.Spec L2
section
variable {X : Cx} {C : Cs} {ks km ke : List SK} {k k1 k2 : SK} {e a b c : Expr} {es : List Expr} {f fa fb : Env → Out D} {pos : Pos} {p : Option Addr} {G : Hp} {ρ : Env} {σ : Sg} {F H : Hp}
/-! ### an own slot compared -/
def boolD (o : Option D) : Option D := match o with
  | some (.bool b) => some (.bool b)
  | _ => none
def xBinS (i : Nat) (g : D → D → Option D) (fb : Env → Out D) : Env → Out D := fun ρ => match ρ[i]?.join with
  | none => .bad
  | some _ => (fb ρ).bind fun y ρ1 => match ρ1[i]?.join with
    | none => .bad
    | some d => lift (boolD (g d y)) ρ1
theorem opS_run {i : Nat} {fv : Value → Value → Sem Value} {g : D → D → Option D} {v0 : V} {d0 : D} (ho : OpF X fv g) (hns : ks.getD i .im ≠ .sc) (hlt : i < ks.length) (hb : EOk X C ks .im b fb) {Q : VK} (S : SR X.K C.io ks p G [] ρ σ F H) (hd0 : ρ[i]?.join = some d0) (hv0 : σ[i]? = some (some v0))
    (q : PostG X.K C p G F (xBinS i g fb ρ) (fun d ρ' F' H' => ∀ v, ROk X.K C.io ks p G ρ' σ .im d F' H' v → Q v H')) : WE X b σ H fun y H2 => WO X fv v0 y H2 Q := by
  simp only [xBinS, hd0] at q
  refine hb.then S q fun y ρ1 F1 H1 u s1 S1 r1 q1 => ?_
  cases hd1 : ρ1[i]?.join with
  | none => rw [hd1] at q1; exact q1.elim
  | some d1 =>
    rw [hd1] at q1
    obtain ⟨z, e, q2⟩ := post_lift (β := Unit) q1
    obtain ⟨F2, s2, S2, _⟩ := S1.freeze (ks' := ks.set i .im) (fun j => decide (j = i)) (fun j => by rw [getD_set hlt]; simp) (fun j hj => by
      have e : j = i := of_decide_eq_true hj
      subst e; exact hns)
    obtain ⟨v, ev, rv⟩ := S2.slotIm (by rw [getD_set hlt, if_pos rfl]) hd1
    rw [hv0] at ev
    cases ev
    unfold boolD at e
    split at e
    · rename_i bb hg
      cases e
      obtain ⟨w, rw', ww⟩ := ho F2 H1 v0 u d1 y _ Q S2.same rv (r1.up s2) hg
      cases rw' with
      | bl => exact ww (q2 F1 H1 (Same.refl _) _ (.of S1 (.bl _)))
    · cases e
section
variable {x : Str} {px : Pos} {op : CmpOp} {g : D → D → Option D}
theorem e_cmpS (i : Nat) (ho : OpF X (compareOp op) g) (hb : EOk X C ks .im b fb) (hns : ks.getD i .im ≠ .sc := by decide) (hlt : i < ks.length := by decide) (hN : X.N[i]? = some x := by rfl) (hv : Vis X.env.scope x := by first | exact Or.inl rfl | exact Or.inr (Or.inl rfl) | exact Or.inr (Or.inr rfl))
    (hd : (x == ("__debug__" : Str)) = false := by decide) (hcd : (x == ("__classdict__" : Str)) = false := by decide) (hm : behindInMarks op b = false := by rfl) : EOk X C ks .im (.Compare (.Name x px) [op] [b] pos) (xBinS i g fb) := fun p G ρ σ F H Q S q => by
  refine we_of (pe_cmpR wo_op (pe_var hN hv hd hcd) pe_we hm) ?_
  cases hd0 : ρ[i]?.join with
  | none => simp only [xBinS, hd0] at q; exact q.elim
  | some d0 =>
    obtain ⟨v0, hv0, _⟩ := S.slot hd0
    exact ⟨v0, hv0, opS_run ho hns hlt hb S hd0 hv0 q⟩
theorem t_cmpS (i : Nat) (ho : OpF X (compareOp op) g) (hb : EOk X C ks .im b fb) (hns : ks.getD i .im ≠ .sc := by decide) (hlt : i < ks.length := by decide) (hN : X.N[i]? = some x := by rfl) (hv : Vis X.env.scope x := by first | exact Or.inl rfl | exact Or.inr (Or.inl rfl) | exact Or.inr (Or.inr rfl))
    (hd : (x == ("__debug__" : Str)) = false := by decide) (hcd : (x == ("__classdict__" : Str)) = false := by decide) (hm : behindInMarks op b = false := by rfl) : TOk X C ks (.Compare (.Name x px) [op] [b] pos) (xB (xBinS i g fb)) := fun p G ρ σ F H Q S q => by
  refine wt_of (pt_cmpR wo_op (pe_var hN hv hd hcd) pe_we hm) ?_
  have q' : PostG X.K C p G F (xBinS i g fb ρ) (fun d ρ' F' H' => ∀ v, ROk X.K C.io ks p G ρ' σ .im d F' H' v → ∃ k, v = V.bl k ∧ Q k H') := q.bind.imp fun d ρ1 F1 H1 s1 q1 v r => by
    obtain ⟨S1, r1⟩ := r.im
    cases r1 with
    | bl x => exact ⟨x, rfl, q1 F1 H1 (Same.refl _) S1⟩
    | _ => exact q1.elim
  cases hd0 : ρ[i]?.join with
  | none => simp only [xBinS, hd0] at q'; exact q'.elim
  | some d0 =>
    obtain ⟨v0, hv0, _⟩ := S.slot hd0
    exact ⟨v0, hv0, opS_run ho hns hlt hb S hd0 hv0 q'⟩
end
/-! ### a, b = x, y -/
/-- a name is stored, other objects of nobody's standing by -/
theorem SR.storeX {io : Bool} {K : PySem.W.Frag} {fp0 ex : List Addr} {d : D} {v : V} {i : Nat} (hi : i < ks.length) (h0 : (io && decide (i = 0)) = false) (S : SR K io ks p G (fp0 ++ ex) ρ σ F H) (hs : SlotR K F H k (some d) (some v) fp0) (nd : fp0.Nodup) (dj : ∀ a ∈ fp0, a ∉ ex)
    (fr : ∀ a ∈ fp0, F a = none ∧ G a = none) : SR K io (ks.set i k) p G ex (ρ.set i (some d)) (σ.set i (some v)) F H := by
  obtain ⟨fp, h1, h2, h3, h4⟩ := id S.st
  have h5 : ∀ i a, a ∈ fp i → a ∉ fp0 ∧ a ∉ ex := fun i a ha => ⟨fun z => (h4 i a ha).2.2 (List.mem_append_left _ z), fun z => (h4 i a ha).2.2 (List.mem_append_right _ z)⟩
  refine ⟨S.same, by rw [List.length_set, List.length_set]; exact S.len, S.pio, fun a ha => ?_, S.gs, S.gd, fun j => if j = i then (if i < ρ.length then fp0 else []) else fp j, fun j => ?_, fun j => ?_, fun j j' b hb hb' => ?_, fun j b hb => ?_⟩
  · have hne : 0 ≠ i := fun z => by
      subst z
      have hio : io = false := by simpa using h0
      rw [S.pio hio] at ha; cases ha
    rw [List.getElem?_set_ne (Ne.symm hne)]
    exact S.pin a ha
  · rw [getD_set hi]
    by_cases h : j = i
    · subst h
      simp only [if_true]
      by_cases hl : j < ρ.length
      · rw [if_pos hl, join_set_self hl, List.getElem?_set_self (by rw [← S.len]; exact hl)]
        exact hs
      · rw [if_neg hl, List.getElem?_eq_none (by rw [List.length_set]; omega)]
        exact SlotR.none'
    · rw [if_neg h]
      dsimp only
      rw [if_neg h, join_set_ne h, List.getElem?_set_ne (Ne.symm h)]
      exact h1 j
  · dsimp only
    split
    · split
      · exact nd
      · exact List.nodup_nil
    · exact h2 j
  · dsimp only at hb hb'
    have hx : ∀ {m : Nat} {b : Addr}, b ∈ (if i < ρ.length then fp0 else []) → b ∉ fp m := fun hb z => by
      split at hb
      · exact (h5 _ _ z).1 hb
      · cases hb
    split at hb
    · split at hb'
      · omega
      · exact absurd hb' (hx hb)
    · split at hb'
      · exact absurd hb (hx hb')
      · exact h3 j j' b hb hb'
  · dsimp only at hb
    split at hb
    · split at hb
      · exact ⟨(fr b hb).1, (fr b hb).2, dj b hb⟩
      · cases hb
    · exact ⟨(h4 j b hb).1, (h4 j b hb).2.1, (h5 j b hb).2⟩
def yPar (i j : Nat) (fa fb : Env → Out D) : Env → Out SO := fun ρ => (fa ρ).bind fun x ρ1 => (fb ρ1).bind fun y ρ2 => .ok .nx ((ρ2.set i (some x)).set j (some y))
theorem s_par (i j : Nat) {x y : Str} {px py pt : Pos} {kt k2' : Nat} {pt2 : Pos} (hc : X.calm = true) (hN : X.N.Nodup) (ha : EOk X C ks k1 a fa) (hb : EOk X C ks k2 b fb) (hi : X.N[i]? = some x := by rfl) (hj : X.N[j]? = some y := by rfl) (hij : i ≠ j := by decide)
    (hx : X.env.scope.names.lookup x = some .local := by rfl) (hy : X.env.scope.names.lookup y = some .local := by rfl) (hli : i < ks.length := by decide) (hlj : j < ks.length := by decide) (h0i : (C.io && decide (i = 0)) = false := by rfl) (h0j : (C.io && decide (j = 0)) = false := by rfl)
    (hw : swappedStores [.Tuple [.Name x px, .Name y py] kt pt] (.Tuple [a, b] k2' pt2) X.env = pure (some [x, y]) := by rfl)
    (hs : swapsWithSole [.Tuple [.Name x px, .Name y py] kt pt] (.Tuple [a, b] k2' pt2) pos.line X.env = pure false := by rfl) (hsa : starEach [a, b] X.env = (false, eval a X.env) :: starEach [b] X.env := by rfl) (hsb : starEach [b] X.env = (false, eval b X.env) :: starEach [] X.env := by rfl) :
    SOk X C ks ((ks.set i k1).set j k2) (.Assign [.Tuple [.Name x px, .Name y py] kt pt] (.Tuple [a, b] k2' pt2) pos) (yPar i j fa fb) := fun p G ρ σ F H Dn S q => by
  refine ws_of (ps_par hc hN hi hj hij hx hy (pa_cons pe_we (pa_cons pe_we pa_nil hsb) hsa) hw hs) ?_
  refine ha p G ρ σ F H _ S (q.bind.imp fun d1 ρ1 F1 H1 s1 q1 v1 ⟨fp, S1, hs1, nd1, fr1⟩ => ?_)
  have th : ∀ b ∈ fp, ∃ o, H1 b = some o := hs1.there
  have hx : ∀ a ∈ fp, G a = none ∧ ∃ o, H1 a = some o := fun a ha => ⟨(fr1 a ha).2, th a ha⟩
  refine hb p (hld fp G H1) ρ1 σ F1 H1 _ (S1.hold fr1) (PostG.hold hx q1.bind |>.imp fun d2 ρ2 F2 H2 s2 q2 v2 ⟨fp2, S2, hs2, nd2, fr2⟩ => ?_)
  obtain ⟨S3, k3, dj⟩ := SR.unhold hx (fun a ha => (fr2 a ha).2) S2
  refine ⟨v1, v2, rfl, ?_⟩
  have hs1' : SlotR X.K F2 H2 k1 (some d1) (some v1) fp := hs1.up s2 fun b hb => (k3 b hb).1
  have S4 := SR.storeX hli h0i S3 hs1' nd1 (fun a ha z => dj a z ha) (fun a ha => ⟨(k3 a ha).2, (fr1 a ha).2⟩)
  refine q2 F2 H2 (Same.refl _) _ (SR.store (by rw [List.length_set]; exact hlj) h0j ⟨fp2, S4, hs2, nd2, fun a ha => ⟨(fr2 a ha).1, ?_⟩⟩)
  have z := (fr2 a ha).2
  rw [hld_out (dj a ha)] at z
  exact z
end
end De
set_option maxHeartbeats 4000000
/-! De13: dicts. -/
namespace De
open PySem PySem.Spec L2
/-! ### dicts as data -/
def keyD : D → Option Key
  | .int i => some (.inl i)
  | .str x => some (.inr x)
  | _ => none
def valD : List (D × D) → Key → Option D
  | [], _ => none
  | p :: r, k => if keyD p.1 = some k then some p.2 else valD r k
def hasD : List (D × D) → Key → Bool
  | [], _ => false
  | p :: r, k => if keyD p.1 = some k then true else hasD r k
def mapD (k : Key) (d : D) : List (D × D) → List (D × D)
  | [] => []
  | p :: r => (if keyD p.1 = some k then (p.1, d) else p) :: mapD k d r
def putD (ds : List (D × D)) (k : Key) (d : D) : List (D × D) := if hasD ds k then mapD k d ds else ds ++ [(kD k, d)]
theorem keyD_kD (k : Key) : keyD (kD k) = some k := by cases k <;> rfl
theorem keyD_inj {d : D} {k : Key} (h : keyD d = some k) : d = kD k := by
  cases d <;> cases h <;> rfl
section
variable {K : PySem.W.Frag} {F F' H H' : Hp}
theorem RepK.val : ∀ {kvs : List (Key × V)} {ds : List (D × D)} (k : Key), RepK K F kvs ds → (∀ d, valD ds k = some d → ∃ v, valV kvs k = some v ∧ Rep K F v d) ∧ (valV kvs k).isSome = (valD ds k).isSome
  | _, [], k, h => by
    cases h
    exact ⟨(fun d z => by cases z), rfl⟩
  | _, (e, d) :: ds, k, h => by
    cases h with
    | @cons k' v vs _ _ h1 h2 =>
      unfold valD
      rw [show keyD ((kD k', d) : D × D).1 = some k' from keyD_kD k']
      by_cases e : k' = k
      · subst e
        rw [if_pos rfl, valV_pos rfl]
        exact ⟨fun d' z => by cases z; exact ⟨v, rfl, h1⟩, rfl⟩
      · rw [if_neg (fun z => e (Option.some.inj z)), valV_neg e]
        exact RepK.val k h2
theorem RepK.has : ∀ {kvs : List (Key × V)} {ds : List (D × D)} (k : Key), RepK K F kvs ds → (kvs.any fun kv => decide (kv.1 = k)) = hasD ds k
  | _, [], k, h => by cases h; rfl
  | _, (e, d) :: ds, k, h => by
    cases h with
    | @cons k' v vs _ _ h1 h2 =>
      unfold hasD
      rw [show keyD ((kD k', d) : D × D).1 = some k' from keyD_kD k', List.any_cons, RepK.has k h2]
      by_cases e : k' = k
      · subst e; simp
      · rw [if_neg (fun z => e (Option.some.inj z))]
        simp [e]
theorem RepK.length : ∀ {kvs : List (Key × V)} {ds : List (D × D)}, RepK K F kvs ds → kvs.length = ds.length
  | _, [], h => by cases h; rfl
  | _, _ :: ds, h => by
    cases h with
    | cons h1 h2 => simp [RepK.length h2]
theorem RepK.mapD {k : Key} {v : V} {d : D} (r : Rep K F v d) : ∀ {kvs : List (Key × V)} {ds : List (D × D)}, RepK K F kvs ds → RepK K F (kvs.map fun kv => if kv.1 = k then (kv.1, v) else kv) (De.mapD k d ds)
  | _, [], h => by cases h; exact .nil
  | _, (e, d') :: ds, h => by
    cases h with
    | @cons k' v' vs _ _ h1 h2 =>
      unfold De.mapD
      rw [List.map_cons, show keyD ((kD k', d') : D × D).1 = some k' from keyD_kD k']
      by_cases e : k' = k
      · rw [if_pos e, if_pos (by rw [e])]
        exact .cons r (RepK.mapD r h2)
      · rw [if_neg e, if_neg (fun z => e (Option.some.inj z))]
        exact .cons h1 (RepK.mapD r h2)
theorem RepK.snoc {k : Key} {v : V} {d : D} (r : Rep K F v d) : ∀ {kvs : List (Key × V)} {ds : List (D × D)}, RepK K F kvs ds → RepK K F (kvs ++ [(k, v)]) (ds ++ [(kD k, d)])
  | _, [], h => by cases h; exact .cons r .nil
  | _, (e, d') :: ds, h => by
    cases h with
    | cons h1 h2 => exact .cons h1 (RepK.snoc r h2)
theorem RepK.put {k : Key} {v : V} {d : D} {kvs : List (Key × V)} {ds : List (D × D)} (r : Rep K F v d) (h : RepK K F kvs ds) : RepK K F (putK kvs k v) (putD ds k d) := by
  unfold putK putD
  rw [h.has k]
  cases hasD ds k with
  | true => simp only [if_true]; exact h.mapD r
  | false => simp only [Bool.false_eq_true, if_false]; exact h.snoc r
theorem Rep.key {v : V} {d : D} {k : Key} (r : Rep K F v d) (h : keyD d = some k) : v = kV k := by
  cases r with
  | int i => cases h; rfl
  | str x => cases h; rfl
  | _ => cases h
end
section
variable {X : Cx} {C : Cs} {ks km ke : List SK} {k k1 k2 : SK} {e a b c : Expr} {es : List Expr} {f fa fb : Env → Out D} {pos : Pos} {p : Option Addr} {G : Hp} {ρ : Env} {σ : Sg} {F H : Hp}
/-! ### a new object of nobody's -/
theorem ROk.newX {K : PySem.W.Frag} {io : Bool} {q : Addr} {o : HO} {d : D} (S : SR K io ks p G [] ρ σ F H) (hq : H q = none) (r : SlotR K F (upd H q o) k (some d) (some (.ref q)) [q]) :
    ROk K io ks p G ρ σ k d F (upd H q o) (.ref q) := by
  have sn : Same H (upd H q o) := same_new hq
  refine ⟨[q], ?_, r, List.nodup_cons.mpr ⟨by simp, List.nodup_nil⟩, fun a ha => ?_⟩
  · obtain ⟨fp, h1, h2, h3, h4⟩ := S.st
    have th : ∀ i, ∀ b ∈ fp i, b ≠ q := fun i b hb z => by
      obtain ⟨o, e⟩ := (h1 i).there b hb
      rw [z, hq] at e; cases e
    exact ⟨S.same.trans sn, S.len, S.pio, S.pin, S.gs.trans sn, S.gd, fp, fun i => (h1 i).up (Same.refl _) fun b hb => upd_ne (th i b hb), h2, h3, fun i a ha => ⟨(h4 i a ha).1, (h4 i a ha).2.1, fun z => th i a ha (List.mem_singleton.mp z)⟩⟩
  · rw [List.mem_singleton.mp ha]
    exact ⟨same_not S.same hq, same_not S.gs hq⟩
/-- an own object is written -/
theorem SR.writeX {i : Nat} {d0 d1 : D} {q : Addr} {o : HO} (hk : own1 (ks.getD i .im) = true) (S : SR X.K C.io ks p G [] ρ σ F H) (hd : ρ[i]?.join = some d0) (hv : σ[i]? = some (some (.ref q))) (r : SlotR X.K F (upd H q o) (ks.getD i .im) (some d1) (some (.ref q)) [q]) :
    SR X.K C.io ks p G [] (ρ.set i (some d1)) σ F (upd H q o) := by
  obtain ⟨fp, h1, h2, h3, h4⟩ := id S.st
  have hi := h1 i
  rw [hd, join_some hv] at hi
  obtain ⟨q', e1, ef⟩ := own1_at hk hi
  cases e1
  have qi : q ∈ fp i := by rw [ef]; exact List.mem_cons_self
  have up : ∀ b, b ≠ q → upd H q o b = H b := fun b hb => upd_ne hb
  refine ⟨fun b o z => ?_, by rw [List.length_set]; exact S.len, S.pio, S.pin, fun b o z => ?_, S.gd, fp, fun j => ?_, h2, h3, h4⟩
  · rw [up b fun z' => by rw [z', (h4 i q qi).1] at z; cases z]; exact S.same b o z
  · rw [up b fun z' => by rw [z', (h4 i q qi).2.1] at z; cases z]; exact S.gs b o z
  · by_cases h : j = i
    · subst h
      rw [join_set_self (join_lt hd), join_some hv, ef]
      exact r
    · rw [join_set_ne h]
      exact (h1 j).up (Same.refl _) fun b hb => up b fun z => h (h3 j i q (z ▸ hb) qi)
theorem SR.ownD {i : Nat} {d : D} (hk : ks.getD i .im = .md) (S : SR X.K C.io ks p G [] ρ σ F H) (e : ρ[i]?.join = some d) : ∃ q kvs ds, d = .dict ds ∧ σ[i]? = some (some (.ref q)) ∧ H q = some (.dK kvs) ∧ RepK X.K F kvs ds := by
  obtain ⟨v, ev, fp, h⟩ := S.slot e
  rw [hk] at h
  obtain ⟨q, xs, ds, e1, e2, hq, r, _⟩ := h
  cases e1
  exact ⟨q, xs, ds, e2, ev, hq, r⟩
/-! ### displays -/
def xNewD : Env → Out D := fun ρ => .ok (.dict []) ρ
theorem e_dnew : EOk X C ks .md (.Dict [] [] pos) xNewD := fun p G ρ σ F H Q S q => by
  refine we_of pe_dnewK ?_
  intro z hz
  exact q F _ (Same.refl _) _ (ROk.newX S hz ⟨z, [], [], rfl, rfl, upd_same, .nil, rfl⟩)
/-- the pairs -/
def RepP (K : PySem.W.Frag) (F : Hp) : List (V × V) → List (D × D) → Prop := Paired fun x y => Rep K F x.1 y.1 ∧ Rep K F x.2 y.2
theorem RepP.up {K : PySem.W.Frag} {F F' : Hp} {ps : List (V × V)} {ds : List (D × D)} (h : RepP K F ps ds) (s : Same F F') : RepP K F' ps ds := by
  unfold RepP at *
  induction h with
  | nil => exact .nil
  | cons r t ih => exact .cons ⟨r.1.up s, r.2.up s⟩ ih
structure POk (X : Cx) (C : Cs) (ks : List SK) (pos : Pos) (keys : List (Option Expr)) (values : List Expr) (f : Env → Out (List (D × D))) : Prop where
  run : ∃ trs, PPs X pos keys values trs ∧ ∀ p G ρ σ F H Q, SR X.K C.io ks p G [] ρ σ F H → PostG X.K C p G F (f ρ) (fun ds ρ' F' H' => ∀ ps, SR X.K C.io ks p G [] ρ' σ F' H' → RepP X.K F' ps ds → Q ps H') → tPairs trs σ H Q
def xPNil : Env → Out (List (D × D)) := fun ρ => .ok [] ρ
def xPCons (f g : Env → Out D) (h : Env → Out (List (D × D))) : Env → Out (List (D × D)) := fun ρ => (f ρ).bind fun x ρ1 => (g ρ1).bind fun y ρ2 => (h ρ2).bind fun ds ρ3 => .ok ((x, y) :: ds) ρ3
theorem p_nil : POk X C ks pos [] [] xPNil := ⟨[], pps_nil, fun p G ρ σ F H Q S q => q F H (Same.refl _) [] S .nil⟩
theorem p_cons {keys : List (Option Expr)} {values : List Expr} {h : Env → Out (List (D × D))} (h1 : EOk X C ks .im a fa) (h2 : EOk X C ks .im b fb) (h3 : POk X C ks pos keys values h) : POk X C ks pos (some a :: keys) (b :: values) (xPCons fa fb h) := by
  obtain ⟨trs, hp, hr⟩ := h3.run
  refine ⟨(WE X a, WE X b) :: trs, pps_cons pe_we pe_we hp, fun p G ρ σ F H Q S q => ?_⟩
  refine h1.then S q fun x ρ1 F1 H1 v s1 S1 r1 q1 => ?_
  refine h2.then S1 q1 fun y ρ2 F2 H2 u s2 S2 r2 q2 => ?_
  refine hr p G ρ2 σ F2 H2 _ S2 (q2.bind.imp fun ds ρ3 F3 H3 s3 q3 ps S3 r3 => ?_)
  exact q3 F3 H3 (Same.refl _) ((v, u) :: ps) S3 (.cons ⟨(r1.up s2).up s3, r2.up s3⟩ r3)
def mergeD (ds more : List (D × D)) : Option (List (D × D)) := match more with
  | [] => some ds
  | (x, y) :: r => match keyD x with
    | some k => mergeD (putD ds k y) r
    | none => none
def xDisp (h : Env → Out (List (D × D))) : Env → Out D := fun ρ => (h ρ).bind fun ds ρ1 => lift (if ds.length ≤ 15 then (mergeD [] ds).map PyData.dict else none) ρ1
theorem merge_rep {K : PySem.W.Frag} {F : Hp} : ∀ {ps : List (V × V)} {ds : List (D × D)} {kvs : List (Key × V)} {es r : List (D × D)}, RepP K F ps ds → RepK K F kvs es → mergeD es ds = some r → ∃ more : List (Key × V), ps = more.map (fun kv => (kV kv.1, kv.2)) ∧ RepK K F (mergeK kvs more) r
  | ps, ds, kvs, es, r, h, hk, e => by
    unfold RepP at h
    induction h generalizing kvs es with
    | nil => cases e; exact ⟨[], rfl, hk⟩
    | @cons p q ps qs h1 t ih =>
      obtain ⟨x, y⟩ := q
      unfold mergeD at e
      cases hx : keyD x with
      | none => rw [hx] at e; cases e
      | some k =>
        rw [hx] at e
        obtain ⟨more, e1, r1⟩ := ih _ _ (hk.put (k := k) h1.2) e
        refine ⟨(k, p.2) :: more, ?_, r1⟩
        rw [List.map_cons, ← e1, ← h1.1.key hx]
theorem e_disp {keys : List (Option Expr)} {values : List Expr} {h : Env → Out (List (D × D))} (hp : POk X C ks pos keys values h) (hall : keys.all (·.isSome) = true := by rfl) (hl : keys.length = values.length := by rfl) (h0 : keys ≠ [] := by exact nofun) (h15 : keys.length ≤ 15 := by decide) :
    EOk X C ks .md (.Dict keys values pos) (xDisp h) := fun p G ρ σ F H Q S q => by
  obtain ⟨trs, hpp, hr⟩ := hp.run
  refine we_of (pe_disp hpp hall hl h0 h15) ?_
  intro z hz
  have R1 : ROk X.K C.io ks p G ρ σ .md (.dict []) F (upd H z (.dK [])) (.ref z) := ROk.newX S hz ⟨z, [], [], rfl, rfl, upd_same, .nil, rfl⟩
  obtain ⟨fp, S1, hs, nd, fr⟩ := R1
  have ef : fp = [z] := by
    obtain ⟨z', _, _, e1, _, _, _, e3⟩ := hs
    cases e1
    exact e3
  subst ef
  have hx : ∀ a ∈ [z], G a = none ∧ ∃ o, upd H z (.dK []) a = some o := fun a ha => ⟨(fr a ha).2, hs.there a ha⟩
  refine hr p (hld [z] G (upd H z (.dK []))) ρ σ F (upd H z (.dK [])) _ (S1.hold fr) (PostG.hold hx q.bind |>.imp fun ds ρ2 F2 H2 s2 q2 ps S2 rp => ?_)
  obtain ⟨S3, k3, _⟩ := SR.unhold (ex' := []) hx (fun a ha => nomatch ha) S2
  rw [List.append_nil] at S3
  obtain ⟨dd, e, q3⟩ := post_lift (β := Unit) q2
  split at e
  case isFalse => cases e
  rename_i hlen
  cases hm : mergeD [] ds with
  | none => rw [hm] at e; cases e
  | some rs =>
    rw [hm] at e
    cases e
    obtain ⟨more, e1, r1⟩ := merge_rep rp (.nil) hm
    have hz2 := k3 z List.mem_cons_self
    refine ⟨by rw [hz2.1]; exact upd_same, more, e1, ?_, ?_⟩
    · have l1 : ps.length = ds.length := Paired.length rp
      rw [e1, List.length_map] at l1
      omega
    · refine q3 F2 _ (Same.refl _) _ ⟨[z], SR.exset List.mem_cons_self hz2.2 (fr z List.mem_cons_self).2 S3, ⟨z, mergeK [] more, rs, rfl, rfl, upd_same, r1, rfl⟩, List.nodup_cons.mpr ⟨by simp, List.nodup_nil⟩, fun a ha => ?_⟩
      rw [List.mem_singleton.mp ha]
      exact ⟨hz2.2, (fr z List.mem_cons_self).2⟩
/-! ### d[k] = v of an own dict -/
def yPut (i : Nat) (fk fv : Env → Out D) : Env → Out SO := fun ρ => (fv ρ).bind fun d ρ1 => match ρ1[i]?.join with
  | none => .bad
  | some _ => (fk ρ1).bind fun x ρ2 => match ρ2[i]?.join, keyD x with
    | some (.dict ds), some k => if ds.length < sizeLine then .ok .nx (ρ2.set i (some (.dict (putD ds k d)))) else .bad
    | _, _ => .bad
theorem s_put (i : Nat) {x : Str} {px pos' : Pos} (hu : X.A.units + 64 < cLine) (hk : ks.getD i .im = .md) (ha : EOk X C ks .im a fa) (hb : EOk X C ks .im b fb) (hN : X.N[i]? = some x := by rfl) (hv : Vis X.env.scope x := by first | exact Or.inl rfl | exact Or.inr (Or.inl rfl) | exact Or.inr (Or.inr rfl))
    (hd : (x == ("__debug__" : Str)) = false := by decide) (hcd : (x == ("__classdict__" : Str)) = false := by decide) (hs : swapsWith b (some (.Subscript (.Name x px) a pos')) pos.line X.env = pure false := by rfl) :
    SOk X C ks ks (.Assign [.Subscript (.Name x px) a pos'] b pos) (yPut i fa fb) := fun p G ρ σ F H Dn S q => by
  refine ws_of (ps_dput (by omega) (pe_var hN hv hd hcd) pe_we pe_we hs) ?_
  refine hb.then S q fun d ρ1 F1 H1 v s1 S1 r1 q1 => ?_
  cases hd1 : ρ1[i]?.join with
  | none => rw [hd1] at q1; exact q1.elim
  | some d1 =>
    rw [hd1] at q1
    obtain ⟨z, kvs1, ds1, e1, hv1, hq1, rk1⟩ := S1.ownD hk hd1
    refine ⟨.ref z, hv1, ?_⟩
    refine ha.then S1 q1 fun x ρ2 F2 H2 u s2 S2 r2 q2 => ?_
    cases hd2 : ρ2[i]?.join with
    | none => rw [hd2] at q2; exact q2.elim
    | some d2 =>
      obtain ⟨z', kvs, ds, e2, hv2, hq2, rk2⟩ := S2.ownD hk hd2
      rw [hv1] at hv2
      cases hv2
      subst e2
      cases hx : keyD x with
      | none => simp only [hd2, hx] at q2; exact q2.elim
      | some kk =>
        simp only [hd2, hx] at q2
        split at q2
        case isFalse => exact q2.elim
        rename_i hlen
        refine ⟨z, _, rfl, ?_, q2 F2 _ (Same.refl _) σ (SR.writeX (by rw [hk]; rfl) S2 hd2 hv1 (by rw [hk]; exact ⟨z, _, _, rfl, rfl, upd_same, rk2.put (k := kk) (r1.up s2), rfl⟩))⟩
        rw [r2.key hx]
        exact DPut.k hq2 (by rw [rk2.length]; exact hlen)
/-! ### d[k], k in d, list(d) of a dict as data -/
def gDIx : D → D → Option D
  | .dict ds, x => match keyD x with
    | some k => valD ds k
    | none => none
  | _, _ => none
theorem dget_rep {K : PySem.W.Frag} {u v : V} {x d : D} {ds : List (D × D)} {kk : Key} (s : Same F H) (r : Rep K F u (.dict ds)) (rx : Rep K F v x) (hx : keyD x = some kk) : ∃ a kvs, u = .ref a ∧ RepK K F kvs ds ∧ DGet H a v (valV kvs kk) := by
  cases r with
  | dic h1 h2 => exact ⟨_, _, rfl, h2, .inl ⟨_, kk, Same.rd s h1, rx.key hx, rfl⟩⟩
theorem e_dix (hu : X.A.units + 64 < cLine) (ha : EOk X C ks .im a fa) (hb : EOk X C ks .im b fb) (hs : NoSl b := by intro _ _; rfl) : EOk X C ks .im (.Subscript a b pos) (xBin gDIx fa fb) := fun p G ρ σ F H Q S q => by
  refine we_of (pe_dget (by omega) pe_we pe_we hs) ?_
  refine ha.then S q fun x ρ1 F1 H1 v s1 S1 r1 q1 => ?_
  refine hb.then S1 q1 fun y ρ2 F2 H2 u s2 S2 r2 q2 => ?_
  obtain ⟨d, e, q3⟩ := post_lift (β := Unit) q2
  unfold gDIx at e
  split at e
  case h_2 => cases e
  cases hy : keyD y with
  | none => rw [hy] at e; cases e
  | some kk =>
    rw [hy] at e
    obtain ⟨z, kvs, e1, rk, g⟩ := dget_rep (d := y) S2.same (r1.up s2) r2 hy
    obtain ⟨v', ev, rv⟩ := (rk.val kk).1 d e
    rw [ev] at g
    exact ⟨z, v', e1, g, q3 F2 H2 (Same.refl _) v' (.of S2 rv)⟩
def gDIn : D → D → Option D
  | x, .dict ds => (keyD x).map fun k => .bool (valD ds k).isSome
  | _, _ => none
def gDNotIn : D → D → Option D
  | x, .dict ds => (keyD x).map fun k => .bool (!(valD ds k).isSome)
  | _, _ => none
theorem op_in_d (hu : X.A.units + 64 < cLine) : OpR X (compareOp .In) (fun y x H Q => ∃ a o, x = .ref a ∧ DGet H a y o ∧ Q (.bl o.isSome) H) := by
  intro pins s σ H y x v u Q I ry rx h
  obtain ⟨a, o, rfl, g, q⟩ := h
  cases rx
  exact d_in (by omega) I g ry fun s3 I3 => ⟨.bl o.isSome, H, I3, rfl, q⟩
theorem op_notIn_d (hu : X.A.units + 64 < cLine) : OpR X (compareOp .NotIn) (fun y x H Q => ∃ a o, x = .ref a ∧ DGet H a y o ∧ Q (.bl (!o.isSome)) H) := by
  intro pins s σ H y x v u Q I ry rx h
  obtain ⟨a, o, rfl, g, q⟩ := h
  cases rx
  exact d_notIn (by omega) I g ry fun s3 I3 => ⟨.bl (!o.isSome), H, I3, rfl, q⟩
theorem o_inD (hu : X.A.units + 64 < cLine) : OpD X (compareOp .In) gDIn := .flat fun F H x y dx dy d Q s rx ry e => by
  unfold gDIn at e
  split at e
  case h_2 => cases e
  cases hx : keyD dx with
  | none => rw [hx] at e; cases e
  | some kk =>
    rw [hx] at e
    cases e
    obtain ⟨z, kvs, e1, rk, g⟩ := dget_rep (d := dx) s ry rx hx
    exact ⟨.bl _, .bl _, fun q => wo_of (op_in_d hu) ⟨z, _, e1, g, by rw [(rk.val kk).2]; exact q⟩⟩
theorem o_notInD (hu : X.A.units + 64 < cLine) : OpD X (compareOp .NotIn) gDNotIn := .flat fun F H x y dx dy d Q s rx ry e => by
  unfold gDNotIn at e
  split at e
  case h_2 => cases e
  cases hx : keyD dx with
  | none => rw [hx] at e; cases e
  | some kk =>
    rw [hx] at e
    cases e
    obtain ⟨z, kvs, e1, rk, g⟩ := dget_rep (d := dx) s ry rx hx
    exact ⟨.bl _, .bl _, fun q => wo_of (op_notIn_d hu) ⟨z, _, e1, g, by rw [(rk.val kk).2]; exact q⟩⟩
def keysD : List D → Option (List D) := fun ds => match ds with
  | [.dict ps] => some (ps.map (·.1))
  | _ => none
theorem RepK.keys {K : PySem.W.Frag} {F : Hp} : ∀ {kvs : List (Key × V)} {ds : List (D × D)}, RepK K F kvs ds → RepA K F (kvs.map fun kv => kV kv.1) (ds.map (·.1))
  | _, [], h => by cases h; exact .nil
  | _, (e, d) :: ds, h => by
    cases h with
    | @cons k' v vs _ _ h1 h2 =>
      refine .cons ?_ (RepK.keys h2)
      cases k' with
      | inl i => exact .int i
      | inr x => exact .str x
theorem c_listD (hc : X.calm = true) : CallL X (.type "list") keysD := fun F H xs ds d Q s r e q => by
  cases r with
  | nil => cases e
  | cons r1 r2 => cases r2 with
    | cons _ _ => cases r1 <;> cases e
    | nil => cases r1 with
      | dic h1 t1 => cases e; exact wc_of (call_listD hc) ⟨_, _, rfl, Same.rd s h1, fun l hl => q l _ hl t1.keys⟩
      | _ => cases e
end
end De
set_option maxHeartbeats 4000000
/-! De14: isinstance, sorted, methods of texts, own lists of lists, tables of the written part. -/
namespace De
open PySem PySem.Spec L2
section
variable {X : Cx} {C : Cs} {ks km ke : List SK} {k k1 k2 : SK} {e a b c : Expr} {es : List Expr} {f fa fb : Env → Out D} {pos : Pos} {p : Option Addr} {G : Hp} {ρ : Env} {σ : Sg} {F H : Hp}
/-! ### isinstance -/
def tyD : D → String
  | .none => "NoneType"
  | .bool _ => "bool"
  | .int _ => "int"
  | .str _ => "str"
  | .list _ => "list"
  | .tuple _ => "tuple"
  | .dict _ => "dict"
theorem Rep.ty {K : PySem.W.Frag} {v : V} {d : D} (s : Same F H) (r : Rep K F v d) : TyX K H v (.type (tyD d)) := by
  cases r with
  | non => exact .base .non
  | bl b => exact .base (.bl b)
  | int i => exact .base (.int i)
  | str x => exact .base (.str x)
  | lst h1 _ => exact .base (.lst (s _ _ h1))
  | tup h1 _ =>
    rcases h1 with (h1 | ⟨u, h1⟩) | ⟨o, its, n, hk, hc, _⟩
    · exact .base (.tup (s _ _ h1))
    · exact .fTuple (s _ _ h1)
    · exact .kTuple hk hc
  | dic h1 _ =>
    rcases h1 with h1 | ⟨u, h1⟩
    · exact .base (.dK (s _ _ h1))
    · exact .fDict (s _ _ h1)
def isiD (T : String) : D → Option D := fun d => (kitB (tyD d) T).map .bool
def xIsi (T : String) (f : Env → Out D) : Env → Out D := fun ρ => (f ρ).bind fun d ρ1 => lift (isiD T d) ρ1
theorem e_isi {T : String} {x : Str} {p' pT : Pos} (h : EOk X C ks .im e f) (hm : X.mg "isinstance" = none) (hmT : X.mg x = none) (hvT : bootBuiltins x = some (.type T)) (hv : bootBuiltins "isinstance" = some (.builtin "isinstance") := by rfl) (hg : Gl X "isinstance" := by rfl) (hgT : Gl X x := by rfl)
    (hn : x ≠ "__name__" := by decide) (hdb : (x == ("__debug__" : Str)) = false := by decide) (he : starEach [e, .Name x pT] X.env = (false, eval e X.env) :: starEach [.Name x pT] X.env := by rfl) (hpl : (backTo pos (starEach [.Name x pT] X.env)).any (·.1) = false := by rfl) :
    EOk X C ks .im (.Call (.Name "isinstance" p') [e, .Name x pT] [] pos) (xIsi T f) := fun p G ρ σ F H Q S q => by
  refine we_of (pe_callB call_isi hg hm hv (pa_cons pe_we (pa_cons (pe_bltn (v := .ty T) hgT hmT hvT rfl hn hdb) pa_nil) he) (by decide) (by decide) he hpl) ?_
  refine h.then S q fun d ρ1 F1 H1 v s1 S1 r1 q1 => ?_
  obtain ⟨z, e, q2⟩ := post_lift (β := Unit) q1
  unfold isiD at e
  cases hk : kitB (tyD d) T with
  | none => rw [hk] at e; cases e
  | some bb =>
    rw [hk] at e
    cases e
    exact ⟨v, .ty T, _, _, bb, rfl, .ty T, r1.ty S1.same, kit_ty hk, q2 F1 H1 (Same.refl _) _ (.of S1 (.bl _))⟩
/-! ### sorted of texts -/
def insS (x : Str) : List Str → List Str
  | [] => [x]
  | y :: r => if ltCps y.cps.toList x.cps.toList then y :: insS x r else x :: y :: r
def sortS : List Str → List Str
  | [] => []
  | x :: r => insS x (sortS r)
theorem insS_perm (x : Str) : ∀ l, (insS x l).Perm (x :: l)
  | [] => .refl _
  | y :: r => by
    unfold insS
    split
    · exact ((insS_perm x r).cons y).trans (.swap x y r)
    · exact .refl _
theorem sortS_perm : ∀ l, (sortS l).Perm l
  | [] => .refl _
  | x :: r => (insS_perm x _).trans ((sortS_perm r).cons x)
def leS (x y : Str) : Prop := x.cps.toList ≤ y.cps.toList
theorem leS_of {x y : Str} : ltCps y.cps.toList x.cps.toList = false ↔ leS x y := by
  unfold leS
  rw [PyProof.Rows.ltCps_eq, decide_eq_false_iff_not]
  exact List.not_lt
theorem leS_trans {x y z : Str} (h : leS x y) (h' : leS y z) : leS x z := List.le_trans h h'
theorem leS_total {x y : Str} (h : ¬ leS x y) : leS y x := (List.le_total x.cps.toList y.cps.toList).resolve_left h
theorem insS_pw (x : Str) : ∀ l : List Str, l.Pairwise leS → (insS x l).Pairwise leS
  | [], _ => List.pairwise_cons.mpr ⟨(fun _ z => nomatch z), .nil⟩
  | y :: r, h => by
    obtain ⟨h1, h2⟩ := List.pairwise_cons.mp h
    unfold insS
    split
    · rename_i hl
      refine List.pairwise_cons.mpr ⟨fun z hz => ?_, insS_pw x r h2⟩
      rcases List.mem_cons.mp ((insS_perm x r).mem_iff.mp hz) with hz | hz
      · subst hz
        refine leS_total fun z => ?_
        rw [leS_of.mpr z] at hl
        cases hl
      · exact h1 z hz
    · rename_i hl
      have hxy : leS x y := leS_of.mp (by simpa using hl)
      refine List.pairwise_cons.mpr ⟨fun z hz => ?_, h⟩
      rcases List.mem_cons.mp hz with hz | hz
      · rw [hz]; exact hxy
      · exact leS_trans hxy (h1 z hz)
theorem sortS_pw : ∀ l : List Str, (sortS l).Pairwise leS
  | [] => .nil
  | x :: r => insS_pw x _ (sortS_pw r)
theorem rising_pw : ∀ (r : List Str) (x : Str), PyProof.Rows.risingS x r = true → (x :: r).Pairwise leS
  | [], x, _ => List.pairwise_cons.mpr ⟨(fun _ z => nomatch z), .nil⟩
  | y :: r, x, h => by
    have h' : (!ltCps y.cps.toList x.cps.toList && PyProof.Rows.risingS y r) = true := h
    simp only [Bool.and_eq_true, Bool.not_eq_true'] at h'
    have hp := rising_pw r y h'.2
    have hxy : leS x y := leS_of.mp h'.1
    refine List.pairwise_cons.mpr ⟨fun z hz => ?_, hp⟩
    rcases List.mem_cons.mp hz with hz | hz
    · rw [hz]; exact hxy
    · exact leS_trans hxy ((List.pairwise_cons.mp hp).1 z hz)
theorem sorted_pw : ∀ l : List Str, PyProof.Rows.sortedS l = true → l.Pairwise leS
  | [], _ => .nil
  | x :: r, h => rising_pw r x h
theorem str_ext {x y : Str} (h : x.cps.toList = y.cps.toList) : x = y := by
  cases x; cases y
  simp only at h
  rw [Array.toList_inj.mp h]
theorem sortS_eq {ys xs : List Str} (hp : ys.Perm xs) (hs : PyProof.Rows.sortedS ys = true) : ys = sortS xs :=
  (hp.trans (sortS_perm xs).symm).eq_of_pairwise (fun a b _ _ h1 h2 => str_ext (List.le_antisymm h1 h2)) (sorted_pw ys hs) (sortS_pw xs)
def sortedD : List D → Option (List D) := fun ds => match ds with
  | [.list xs] => (strsOf xs).bind fun ns => if ns.length < 64 then some ((sortS ns).map .str) else none
  | _ => none
theorem c_sorted : CallL X (.builtin "sorted") sortedD := fun F H xs ds d Q s r e q => by
  cases r with
  | nil => cases e
  | cons r1 r2 => cases r2 with
    | cons _ _ => cases r1 <;> cases e
    | nil => cases r1 with
      | @lst aa xs' ds' h1 t1 =>
        simp only [sortedD] at e
        cases hn : strsOf ds' with
        | none => rw [hn] at e; cases e
        | some ns =>
          rw [hn] at e
          simp only [Option.bind] at e
          split at e
          case isFalse => cases e
          rename_i hl
          cases e
          have ex := t1.strs' hn
          subst ex
          refine wc_of cr_sortedS ⟨aa, ns, rfl, .inl (.inl (s _ _ h1)), hl, fun ys l hp hs hl' => ?_⟩
          rw [sortS_eq hp hs]
          exact q l _ hl' (RepA.ofStrs _)
      | _ => cases e
/-! ### methods of texts -/
def splitD (z : Str) : List D → Option (List D) := fun ds => match ds with
  | [.str b] => if !(b.length == 0) && decide (z.length + 2 ≤ sizeLine) then some ((Txt.split z b).map .str) else none
  | _ => none
theorem m_split : MtDL X "str.split" splitD := fun F H z xs ds d Q s r e q => by
  cases r with
  | nil => cases e
  | cons r1 r2 => cases r2 with
    | cons _ _ => cases r1 <;> cases e
    | nil => cases r1 with
      | str b =>
        simp only [splitD] at e
        split at e
        case isFalse => cases e
        rename_i hl
        cases e
        simp only [Bool.and_eq_true, Bool.not_eq_true', decide_eq_true_eq] at hl
        exact wm_of mt_split ⟨z, b, rfl, rfl, hl.1, hl.2, fun l hl' => q l _ hl' (RepA.ofStrs _)⟩
      | _ => cases e
def joinD (z : Str) : List D → Option D := fun ds => match ds with
  | [.list xs] => (strsOf xs).bind fun ns => if (ns.map (·.length)).sum + ns.length * z.length ≤ 16777216 then some (.str (Txt.join z ns)) else none
  | [.tuple xs] => (strsOf xs).bind fun ns => if (ns.map (·.length)).sum + ns.length * z.length ≤ 16777216 then some (.str (Txt.join z ns)) else none
  | _ => none
theorem MtD.flat {id : String} {g : Str → List D → Option D} (h : ∀ F H z xs ds d (Q : VK), Same F H → RepA X.K F xs ds → g z ds = some d → ∃ v, Rep X.K F v d ∧ (Q v H → WM X id (.str z) xs H Q)) : MtD X id g := fun F H z xs ds d Q s r e q => by
  obtain ⟨v, rv, w⟩ := h F H z xs ds d Q s r e
  exact w (q F H v (Grow.refl s) rv)
theorem join_run {z : Str} {x : V} {aa : Addr} {xs' : List V} {ds' : List D} {d : D} {Q : VK} (t1 : RepA X.K F xs' ds') (hs : SqL X.K H aa xs' ∨ SqT X.K H aa xs') (e : ((strsOf ds').bind fun ns => if (ns.map (·.length)).sum + ns.length * z.length ≤ 16777216 then some (PyData.str (Txt.join z ns)) else none) = some d) :
    ∃ v, Rep X.K F v d ∧ (Q v H → WM X "str.join" (.str z) [.ref aa] H Q) := by
  cases hn : strsOf ds' with
  | none => rw [hn] at e; cases e
  | some ns =>
    rw [hn] at e
    simp only [Option.bind] at e
    split at e
    case isFalse => cases e
    rename_i hl
    cases e
    have ex := t1.strs' hn
    subst ex
    exact ⟨_, .str _, fun q => wm_of mt_join ⟨z, aa, ns, rfl, rfl, hs, hl, q⟩⟩
theorem m_join : MtD X "str.join" joinD := .flat fun F H z xs ds d Q s r e => by
  cases r with
  | nil => cases e
  | cons r1 r2 => cases r2 with
    | cons _ _ => cases r1 <;> cases e
    | nil => cases r1 with
      | lst h1 t1 => exact join_run (x := .non) t1 (.inl (.inl (.inl (s _ _ h1)))) e
      | tup h1 t1 => exact join_run (x := .non) t1 (.inr (Same.sqT s h1)) e
      | _ => cases e
def str1 (g : Str → Str → Option D) (z : Str) : List D → Option D := fun ds => match ds with
  | [.str b] => g z b
  | _ => none
theorem MtD.s1 {id : String} {g : Str → Str → Option D} (h : ∀ F H z b d (Q : VK), g z b = some d → ∃ v, Rep X.K F v d ∧ (Q v H → WM X id (.str z) [.str b] H Q)) : MtD X id (str1 g) := .flat fun F H z xs ds d Q s r e => by
  cases r with
  | nil => cases e
  | cons r1 r2 => cases r2 with
    | cons _ _ => cases r1 <;> cases e
    | nil => cases r1 with
      | str b => exact h F H z b d Q e
      | _ => cases e
def startsD (z b : Str) : Option D := some (.bool (Txt.startswith z b))
theorem m_starts : MtD X "str.startswith" (str1 startsD) := .s1 fun F H z b d Q e => by
  cases e
  exact ⟨_, .bl _, fun q => wm_of mt_startswith ⟨z, b, rfl, rfl, q⟩⟩
def countD (z b : Str) : Option D := some (.int (Txt.count z b))
theorem m_count : MtD X "str.count" (str1 countD) := .s1 fun F H z b d Q e => by
  cases e
  exact ⟨_, .int _, fun q => wm_of mt_count ⟨z, b, rfl, rfl, q⟩⟩
def indexD (z b : Str) : Option D := match Builtin.Str.occurrences z b 0 z.length 1 with
  | i :: _ => some (.int (i : Nat))
  | [] => none
theorem m_index : MtD X "str.index" (str1 indexD) := .s1 fun F H z b d Q e => by
  unfold indexD at e
  cases h : Builtin.Str.occurrences z b 0 z.length 1 with
  | nil => rw [h] at e; cases e
  | cons i r =>
    rw [h] at e
    cases e
    exact ⟨_, .int _, fun q => wm_of mt_sindex ⟨z, b, i, r, rfl, rfl, h, q⟩⟩
def stripCD (z b : Str) : Option D := if z.length ≤ sizeLine then some (.str (Txt.stripChars z b)) else none
theorem m_stripC : MtD X "str.strip" (str1 stripCD) := .s1 fun F H z b d Q e => by
  unfold stripCD at e
  split at e
  case isFalse => cases e
  rename_i h
  cases e
  exact ⟨_, .str _, fun q => wm_of mt_stripChars ⟨z, b, rfl, rfl, h, q⟩⟩
end
end De
set_option maxHeartbeats 4000000
/-! De15: own lists of lists. -/
namespace De
open PySem PySem.Spec L2
section
variable {K : PySem.W.Frag} {io : Bool} {ks : List SK} {p : Option Addr} {G : Hp} {ex : List Addr} {ρ ρ' : Env} {σ : Sg} {F F' H H' : Hp} {i : Nat} {d : D}
/-- slot i put aside -/
theorem SR.takeS {v : V} (S : SR K io ks p G [] ρ σ F H) (hd : ρ[i]?.join = some d) (hv : σ[i]? = some (some v)) : ∃ fp, SlotR K F H (ks.getD i .im) (some d) (some v) fp ∧ fp.Nodup ∧ (∀ a ∈ fp, F a = none ∧ G a = none) ∧ SR K io ks p (hld fp G H) [] (ρ.set i none) σ F H := by
  obtain ⟨f, h1, h2, h3, h4⟩ := id S.st
  have hi := h1 i
  rw [hd, join_some hv] at hi
  have S1 : SR K io ks p G (f i) (ρ.set i none) σ F H := by
    refine ⟨S.same, by rw [List.length_set]; exact S.len, S.pio, S.pin, S.gs, S.gd, fun j => if j = i then [] else f j, fun j => ?_, fun j => ?_, fun j j' a ha ha' => ?_, fun j a ha => ?_⟩
    · dsimp only
      split
      · rename_i e
        subst e
        rw [join_set_self (join_lt hd)]
        exact SlotR.none'
      · rename_i e
        rw [join_set_ne e]
        exact h1 j
    · dsimp only
      split
      · exact List.nodup_nil
      · exact h2 j
    · dsimp only at ha ha'
      split at ha
      · cases ha
      · split at ha'
        · cases ha'
        · exact h3 j j' a ha ha'
    · dsimp only at ha
      split at ha
      · cases ha
      · rename_i e
        exact ⟨(h4 j a ha).1, (h4 j a ha).2.1, fun z => e (h3 j i a ha z)⟩
  exact ⟨f i, hi, h2 i, fun a ha => ⟨(h4 i a ha).1, (h4 i a ha).2.1⟩, S1.hold fun a ha => ⟨(h4 i a ha).1, (h4 i a ha).2.1⟩⟩
/-- .. and put back -/
theorem SR.putS {v : V} {fp : List Addr} (hlt : i < ρ'.length) (hs : SlotR K F H (ks.getD i .im) (some d) (some v) fp) (nd : fp.Nodup) (fr : ∀ a ∈ fp, F a = none ∧ G a = none) (hv : σ[i]? = some (some v)) (s : Same F F') (S : SR K io ks p (hld fp G H) [] ρ' σ F' H') :
    SR K io ks p G [] (ρ'.set i (some d)) σ F' H' := by
  have th : ∀ a ∈ fp, G a = none ∧ ∃ o, H a = some o := fun a ha => ⟨(fr a ha).2, hs.there a ha⟩
  obtain ⟨S1, k1, _⟩ := SR.unhold (ex' := []) th (fun a z => nomatch z) S
  rw [List.append_nil] at S1
  obtain ⟨f, h1, h2, h3, h4⟩ := id S1.st
  refine ⟨S1.same, by rw [List.length_set]; exact S1.len, S1.pio, S1.pin, S1.gs, S1.gd, fun j => if j = i then fp else f j, fun j => ?_, fun j => ?_, fun j j' a ha ha' => ?_, fun j a ha => ?_⟩
  · dsimp only
    split
    · rename_i e
      subst e
      rw [join_set_self hlt, join_some hv]
      exact hs.up s fun b hb => (k1 b hb).1
    · rename_i e
      rw [join_set_ne e]
      exact h1 j
  · dsimp only
    split
    · exact nd
    · exact h2 j
  · dsimp only at ha ha'
    split at ha
    · split at ha'
      · omega
      · exact absurd ha (h4 j' a ha').2.2
    · split at ha'
      · exact absurd ha' (h4 j a ha).2.2
      · exact h3 j j' a ha ha'
  · dsimp only at ha
    split at ha
    · exact ⟨(k1 a ha).2, (fr a ha).2, by simp⟩
    · exact ⟨(h4 j a ha).1, (h4 j a ha).2.1, by simp⟩
theorem RowsR.get {bs : List Addr} {rows : List D} (h : RowsR K F H bs rows) : ∀ {j : Nat} {r : D}, rows[j]? = some r → ∃ b xs ds, bs[j]? = some b ∧ r = .list ds ∧ H b = some (.lst xs) ∧ RepA K F xs ds := by
  unfold RowsR at h
  induction h with
  | nil => intro j r e; simp at e
  | cons r t ih =>
    intro j r' e
    cases j with
    | zero =>
      obtain ⟨xs, ds, e1, hb, ra⟩ := r
      simp at e
      subst e
      exact ⟨_, xs, ds, rfl, e1, hb, ra⟩
    | succ j => exact ih (by simpa using e)
theorem RowsR.set {bs : List Addr} {rows : List D} {b : Addr} {xs : List V} {ds : List D} (h : RowsR K F H bs rows) (nd : bs.Nodup) (r : RepA K F xs ds) : ∀ {j : Nat}, bs[j]? = some b → RowsR K F (upd H b (.lst xs)) bs (rows.set j (.list ds)) := by
  unfold RowsR at *
  induction h with
  | nil => intro j e; simp at e
  | @cons b0 r0 bs' rows' r1 t ih =>
    obtain ⟨nd1, nd2⟩ := List.nodup_cons.mp nd
    intro j e
    cases j with
    | zero =>
      simp at e
      subst e
      refine .cons ⟨xs, ds, rfl, upd_same, r⟩ ?_
      exact RowsR.up (H := H) (K := K) (F := F) t (Same.refl _) fun c hc => upd_ne fun (z : c = b0) => nd1 (z ▸ hc)
    | succ j =>
      have e' : bs'[j]? = some b := by simpa using e
      obtain ⟨xs1, ds1, e1, hb1, ra1⟩ := r1
      refine .cons ⟨xs1, ds1, e1, ?_, ra1⟩ (ih nd2 e')
      rw [upd_ne fun (z : b0 = b) => nd1 (by rw [z]; exact List.mem_of_getElem? e')]
      exact hb1
/-- a row of an own list of lists is written -/
theorem SR.writeRow {rows : List D} {a : Addr} {bs : List Addr} {j : Nat} {b : Addr} {xs : List V} {ds : List D} (hk : ks.getD i .im = .mm) (S : SR K io ks p G [] ρ σ F H) (hd : ρ[i]?.join = some (.list rows)) (hv : σ[i]? = some (some (.ref a))) (ha : H a = some (.lst (bs.map .ref)))
    (hb : bs[j]? = some b) (r : RepA K F xs ds) : SR K io ks p G [] (ρ.set i (some (.list (rows.set j (.list ds))))) σ F (upd H b (.lst xs)) := by
  obtain ⟨fp, h1, h2, h3, h4⟩ := id S.st
  have hi := h1 i
  rw [hd, join_some hv, hk] at hi
  obtain ⟨a', bs', rows', e1, e2, ha', rr, ef⟩ := hi
  cases e1
  cases e2
  have eb : bs' = bs := by
    rw [ha] at ha'
    have := HO.lst.inj (Option.some.inj ha')
    have inj : ∀ {x y : List Addr}, x.map V.ref = y.map V.ref → x = y := fun {x} => by
      induction x with
      | nil => intro y e; cases y with
        | nil => rfl
        | cons _ _ => cases e
      | cons x xs ih => intro y e; cases y with
        | nil => cases e
        | cons y ys =>
          rw [List.map_cons, List.map_cons] at e
          obtain ⟨e1, e2⟩ := List.cons.inj e
          rw [V.ref.inj e1, ih e2]
    exact inj this.symm
  subst eb
  have nd := h2 i
  rw [ef] at nd
  obtain ⟨na, nb⟩ := List.nodup_cons.mp nd
  have bm : b ∈ bs' := List.mem_of_getElem? hb
  have bi : b ∈ fp i := by rw [ef]; exact List.mem_cons_of_mem _ bm
  have up : ∀ c, c ≠ b → upd H b (.lst xs) c = H c := fun c hc => upd_ne hc
  refine ⟨fun c o z => ?_, by rw [List.length_set]; exact S.len, S.pio, S.pin, fun c o z => ?_, S.gd, fp, fun m => ?_, h2, h3, h4⟩
  · rw [up c fun z' => by rw [z', (h4 i b bi).1] at z; cases z]; exact S.same c o z
  · rw [up c fun z' => by rw [z', (h4 i b bi).2.1] at z; cases z]; exact S.gs c o z
  · by_cases h : m = i
    · subst h
      rw [join_set_self (join_lt hd), join_some hv, hk, ef]
      refine ⟨a, bs', _, rfl, rfl, ?_, rr.set nb r hb, rfl⟩
      rw [up a fun z => na (z ▸ bm)]
      exact ha
    · rw [join_set_ne h]
      exact (h1 m).up (Same.refl _) fun c hc => up c fun z => h (h3 m i b (z ▸ hc) bi)
end
section
variable {X : Cx} {C : Cs} {ks km ke : List SK} {k : SK} {a b : Expr} {fa fb : Env → Out D} {pos : Pos} {p : Option Addr} {G : Hp} {ρ : Env} {σ : Sg} {F H : Hp} {x : Str} {px p2 : Pos}
def rowD : D → D → Option (Nat × List D)
  | .list rows, .int j => match ixN rows.length j with
    | some m => (match rows[m]? with
      | some (.list ds) => some (m, ds)
      | _ => none)
    | none => none
  | _, _ => none
def xIxM (i : Nat) (fa fb : Env → Out D) : Env → Out D := fun ρ => match ρ[i]?.join with
  | none => .bad
  | some d => (fa (ρ.set i none)).bind fun j ρ1 => match rowD d j with
    | none => .bad
    | some (m, ds) => (fb ρ1).bind fun y ρ2 => if i < ρ2.length then lift (gIx (.list ds) y) (ρ2.set i (some d)) else .bad
def zIxM (i : Nat) (fa fb : Env → Out D) : D → Env → Out Unit := fun v ρ => match ρ[i]?.join with
  | none => .bad
  | some d => (fa (ρ.set i none)).bind fun j ρ1 => match d, rowD d j with
    | .list rows, some (m, ds) => (fb ρ1).bind fun y ρ2 => (match y with
      | .int n => (match ixN ds.length n with
        | some z => if i < ρ2.length then .ok () (ρ2.set i (some (.list (rows.set m (.list (ds.set z v)))))) else .bad
        | none => .bad)
      | _ => .bad)
    | _, _ => .bad
theorem rowD_some {rows : List D} {y : D} {m : Nat} {ds : List D} (h : rowD (.list rows) y = some (m, ds)) : ∃ n, y = .int n ∧ ixN rows.length n = some m ∧ rows[m]? = some (.list ds) := by
  cases y with
  | int n =>
    unfold rowD at h
    dsimp only at h
    cases h1 : ixN rows.length n with
    | none => rw [h1] at h; cases h
    | some m' =>
      rw [h1] at h
      dsimp only at h
      cases h2 : rows[m']? with
      | none => rw [h2] at h; cases h
      | some r =>
        rw [h2] at h
        cases r with
        | list ds' =>
          cases h
          exact ⟨n, rfl, h1, h2⟩
        | _ => cases h
  | _ => cases h
theorem SR.ownM {i : Nat} {d : D} {K : PySem.W.Frag} {io : Bool} {fp : List Addr} {v : V} (hs : SlotR K F H .mm (some d) (some v) fp) : ∃ a bs rows, v = .ref a ∧ d = .list rows ∧ H a = some (.lst (bs.map .ref)) ∧ RowsR K F H bs rows ∧ fp = a :: bs := by
  obtain ⟨a, bs, rows, e1, e2, ha, r, e3⟩ := hs
  cases e1
  exact ⟨a, bs, rows, rfl, e2, ha, r, e3⟩
theorem row_at {K : PySem.W.Frag} {bs : List Addr} {rows : List D} {n : Int} {m : Nat} {ds : List D} (r : RowsR K F H bs rows) (hm : ixN rows.length n = some m) (hr : rows[m]? = some (.list ds)) : ∃ b xs, bs[m]? = some b ∧ L2.atI (bs.map V.ref) n = some (.ref b) ∧ H b = some (.lst xs) ∧ RepA K F xs ds := by
  obtain ⟨b, xs, ds', hb, e, hH, ra⟩ := r.get hr
  cases e
  refine ⟨b, xs, hb, ?_, hH, ra⟩
  unfold L2.atI
  rw [List.length_map, show bs.length = rows.length from Paired.length r, hm]
  show (bs.map V.ref)[m]? = _
  rw [List.getElem?_map, hb]
  rfl
theorem e_ixM (i : Nat) (hk : ks.getD i .im = .mm) (ha : EOk X C ks .im a fa) (hb : EOk X C ks .im b fb) (hN : X.N[i]? = some x := by rfl) (hvi : Vis X.env.scope x := by first | exact Or.inl rfl | exact Or.inr (Or.inl rfl) | exact Or.inr (Or.inr rfl)) (hd : (x == ("__debug__" : Str)) = false := by decide) (hcd : (x == ("__classdict__" : Str)) = false := by decide)
    (hs : PlainIx a := by intro _ _; rfl) (hs2 : PlainIx b := by intro _ _; rfl) : EOk X C ks .im (.Subscript (.Subscript (.Name x px) a p2) b pos) (xIxM i fa fb) := fun p G ρ σ F H Q S q => by
  refine we_of (pe_ix wix_ix (pe_ix wix_ix (pe_var hN hvi hd hcd) pe_we hs) pe_we hs2) ?_
  cases hd0 : ρ[i]?.join with
  | none => simp only [xIxM, hd0] at q; exact q.elim
  | some d0 =>
    simp only [xIxM, hd0] at q
    obtain ⟨v0, hv0, _⟩ := S.slot hd0
    obtain ⟨fp, hsl, nd, fr, S0⟩ := S.takeS hd0 hv0
    rw [hk] at hsl
    obtain ⟨aa, bs, rows, e1, e2, hH, rr, ef⟩ := SR.ownM (i := i) (io := C.io) hsl
    subst e1 e2
    have th : ∀ a ∈ fp, G a = none ∧ ∃ o, H a = some o := fun a ha => ⟨(fr a ha).2, hsl.there a ha⟩
    refine ⟨.ref aa, hv0, ?_⟩
    refine ha p (hld fp G H) (ρ.set i none) σ F H _ S0 (PostG.hold th q.bind |>.imp fun j ρ1 F1 H1 s1 q1 u r1 => ?_)
    obtain ⟨S1, ru⟩ := r1.im
    have k1 : ∀ c ∈ fp, H1 c = H c := fun c hc => by
      obtain ⟨_, o, ho⟩ := th c hc
      rw [ho]; exact S1.gs c o (by rw [hld_in hc]; exact ho)
    cases hrow : rowD (.list rows) j with
    | none => rw [hrow] at q1; exact q1.elim
    | some z =>
      obtain ⟨m, ds⟩ := z
      rw [hrow] at q1
      obtain ⟨n, ej, hm, hr⟩ := rowD_some hrow
      subst ej
      cases ru
      obtain ⟨b0, xs, hb0, hat, hHb, ra⟩ := row_at rr hm hr
      have aIn : aa ∈ fp := by rw [ef]; exact List.mem_cons_self
      have bIn : b0 ∈ fp := by rw [ef]; exact List.mem_cons_of_mem _ (List.mem_of_getElem? hb0)
      refine wix_of ix_list ⟨aa, bs.map V.ref, n, .ref b0, rfl, rfl, .inl (.inl (by rw [k1 aa aIn]; exact hH)), hat, ?_⟩
      have hh : hld fp G H = hld fp (hld fp G H) H1 := funext fun c => by
        by_cases hc : c ∈ fp
        · rw [hld_in hc, hld_in hc, k1 c hc]
        · rw [hld_out hc, hld_out hc, hld_out hc]
      refine hb p (hld fp G H) ρ1 σ F1 H1 _ S1 (PostG.hold th q1.bind |>.imp fun y ρ2 F2 H2 s2 q2 w r2 => ?_)
      obtain ⟨S2, rw2⟩ := r2.im
      split at q2
      case isFalse => exact q2.elim
      rename_i hlt
      obtain ⟨z, e, q3⟩ := post_lift (β := Unit) q2
      have k2 : ∀ c ∈ fp, H2 c = H c := fun c hc => by
        obtain ⟨_, o, ho⟩ := th c hc
        rw [ho]; exact S2.gs c o (by rw [hld_in hc]; exact ho)
      have S3 := SR.putS (d := .list rows) hlt (by rw [hk]; exact hsl) nd fr hv0 (s1.trans s2) S2
      cases rw2 with
      | int n2 =>
        obtain ⟨v', ev, rv⟩ := (ra.up (s1.trans s2)).atI e
        exact wix_of ix_list ⟨b0, xs, n2, v', rfl, rfl, .inl (.inl (by rw [k2 b0 bIn]; exact hHb)), ev, q3 F2 H2 (Same.refl _) v' (.of S3 rv)⟩
      | _ => cases e
theorem g_ixM (i : Nat) (hk : ks.getD i .im = .mm) (ha : EOk X C ks .im a fa) (hb : EOk X C ks .im b fb) (hN : X.N[i]? = some x := by rfl) (hvi : Vis X.env.scope x := by first | exact Or.inl rfl | exact Or.inr (Or.inl rfl) | exact Or.inr (Or.inr rfl)) (hd : (x == ("__debug__" : Str)) = false := by decide) (hcd : (x == ("__classdict__" : Str)) = false := by decide)
    (hs : PlainIx a := by intro _ _; rfl) (hasg : ∀ v, assign (.Subscript (.Subscript (.Name x px) a p2) b pos) X.env v = (do
      let ov ← holding [v] (eval (.Subscript (.Name x px) a p2) X.env)
      let iv ← holding [v, ov] (eval b X.env)
      standAt pos
      holding [v, ov, iv] (setItem ov iv v)
      release [v, ov, iv] []) := by intro _; rfl) : GOk X C ks ks (.Subscript (.Subscript (.Name x px) a p2) b pos) (zIxM i fa fb) := fun p G ρ σ F H v d Q S r q => by
  refine wg_of (pg_sub (pe_ix wix_ix (pe_var hN hvi hd hcd) pe_we hs) pe_we set_list hasg) ?_
  cases hd0 : ρ[i]?.join with
  | none => simp only [zIxM, hd0] at q; exact q.elim
  | some d0 =>
    simp only [zIxM, hd0] at q
    obtain ⟨v0, hv0, _⟩ := S.slot hd0
    obtain ⟨fp, hsl, nd, fr, S0⟩ := S.takeS hd0 hv0
    rw [hk] at hsl
    obtain ⟨aa, bs, rows, e1, e2, hH, rr, ef⟩ := SR.ownM (i := i) (io := C.io) hsl
    subst e1 e2
    have th : ∀ a ∈ fp, G a = none ∧ ∃ o, H a = some o := fun a ha => ⟨(fr a ha).2, hsl.there a ha⟩
    refine ⟨.ref aa, hv0, ?_⟩
    refine ha p (hld fp G H) (ρ.set i none) σ F H _ S0 (PostG.hold th q.bind |>.imp fun j ρ1 F1 H1 s1 q1 u r1 => ?_)
    obtain ⟨S1, ru⟩ := r1.im
    have k1 : ∀ c ∈ fp, H1 c = H c := fun c hc => by
      obtain ⟨_, o, ho⟩ := th c hc
      rw [ho]; exact S1.gs c o (by rw [hld_in hc]; exact ho)
    cases hrow : rowD (.list rows) j with
    | none => rw [hrow] at q1; exact q1.elim
    | some z =>
      obtain ⟨m, ds⟩ := z
      rw [hrow] at q1
      obtain ⟨n, ej, hm, hr⟩ := rowD_some hrow
      subst ej
      cases ru
      obtain ⟨b0, xs, hb0, hat, hHb, ra⟩ := row_at rr hm hr
      have aIn : aa ∈ fp := by rw [ef]; exact List.mem_cons_self
      have bIn : b0 ∈ fp := by rw [ef]; exact List.mem_cons_of_mem _ (List.mem_of_getElem? hb0)
      refine wix_of ix_list ⟨aa, bs.map V.ref, n, .ref b0, rfl, rfl, .inl (.inl (by rw [k1 aa aIn]; exact hH)), hat, ?_⟩
      refine hb p (hld fp G H) ρ1 σ F1 H1 _ S1 (PostG.hold th q1.bind |>.imp fun y ρ2 F2 H2 s2 q2 w r2 => ?_)
      obtain ⟨S2, rw2⟩ := r2.im
      have k2 : ∀ c ∈ fp, H2 c = H c := fun c hc => by
        obtain ⟨_, o, ho⟩ := th c hc
        rw [ho]; exact S2.gs c o (by rw [hld_in hc]; exact ho)
      cases rw2 with
      | int n2 =>
        dsimp only at q2
        cases hz : ixN ds.length n2 with
        | none => rw [hz] at q2; exact q2.elim
        | some zz =>
          rw [hz] at q2
          dsimp only at q2
          split at q2
          case isFalse => exact q2.elim
          rename_i hlt
          have S3 := SR.putS (d := .list rows) hlt (by rw [hk]; exact hsl) nd fr hv0 (s1.trans s2) S2
          have S4 := SR.writeRow hk S3 (by rw [join_set_self hlt]) hv0 (by rw [k2 aa aIn]; exact hH) hb0 ((ra.up (s1.trans s2)).set (r.up (s1.trans s2)) zz)
          rw [List.set_set] at S4
          exact ⟨b0, xs, n2, zz, rfl, rfl, by rw [k2 b0 bIn]; exact hHb, by rw [ra.length]; exact hz, q2 F2 _ (Same.refl _) σ S4⟩
      | _ => exact q2.elim
end
end De
set_option maxHeartbeats 4000000
/-! De16: data of the written part told; a law's end. -/
namespace De
open PySem PySem.Spec L2
/-! ### a value of the written part stands for data -/
mutual
def repB (K : PySem.W.Frag) : D → Value → Bool
  | .none, .none => true
  | .bool b, .bool c => b == c
  | .int i, .int j _ => decide (i = j)
  | .str x, .str y _ => decide (x = y)
  | .tuple ds, .ref a => match K.lookup a with
    | some ⟨.type c, _, .seq its _, _⟩ => decide (c = "tuple") && (decide (its.size ≤ sizeLine) && repsB K ds its.toList)
    | _ => false
  | _, _ => false
def repsB (K : PySem.W.Frag) : List D → List Value → Bool
  | [], [] => true
  | d :: ds, u :: us => repB K d u && repsB K ds us
  | _, _ => false
end
mutual
theorem repB_ok {K : PySem.W.Frag} : ∀ (d : D) (u : Value), repB K d u = true → ∃ v, RelV v u ∧ ∀ F, Rep K F v d
  | .none, u, h => by
    cases u with
    | none => exact ⟨.non, rfl, fun _ => .non⟩
    | _ => simp [repB] at h
  | .bool b, u, h => by
    cases u with
    | bool c =>
      have e : b = c := by simpa [repB] using h
      exact ⟨.bl b, by rw [e]; rfl, fun _ => .bl b⟩
    | _ => simp [repB] at h
  | .int i, u, h => by
    cases u with
    | int j t =>
      have e : i = j := by simpa [repB] using h
      exact ⟨.int i, ⟨t, by rw [e]⟩, fun _ => .int i⟩
    | _ => simp [repB] at h
  | .str x, u, h => by
    cases u with
    | str y t =>
      have e : x = y := by simpa [repB] using h
      exact ⟨.str x, ⟨t, by rw [e]⟩, fun _ => .str x⟩
    | _ => simp [repB] at h
  | .tuple ds, u, h => by
    cases u with
    | ref a =>
      unfold repB at h
      cases q : K.lookup a with
      | none => rw [q] at h; cases h
      | some o =>
        obtain ⟨oc, od, dt, osl⟩ := o
        rw [q] at h
        cases oc with
        | type c =>
          cases dt with
          | seq its n =>
            dsimp only at h
            simp only [Bool.and_eq_true, decide_eq_true_eq] at h
            obtain ⟨h1, h2, h3⟩ := h
            obtain ⟨vs, rv, r⟩ := repsB_ok ds its.toList h3
            exact ⟨.ref a, rfl, fun F => .tup (.inr ⟨_, its, n, q, congrArg Value.type h1, rfl, h2, rv⟩) (r F)⟩
          | _ => cases h
        | _ => cases dt <;> cases h
    | _ => simp [repB] at h
  | .list _, _, h => by simp [repB] at h
  | .dict _, _, h => by simp [repB] at h
theorem repsB_ok {K : PySem.W.Frag} : ∀ (ds : List D) (us : List Value), repsB K ds us = true → ∃ vs, Vals vs us ∧ ∀ F, RepA K F vs ds
  | [], us, h => by
    cases us with
    | nil => exact ⟨[], .nil, fun _ => .nil⟩
    | cons _ _ => simp [repsB] at h
  | d :: ds, us, h => by
    cases us with
    | nil => simp [repsB] at h
    | cons u us =>
      unfold repsB at h
      simp only [Bool.and_eq_true] at h
      obtain ⟨v, rv, r⟩ := repB_ok d u h.1
      obtain ⟨vs, rvs, rs⟩ := repsB_ok ds us h.2
      exact ⟨v :: vs, .cons rv rvs, fun F => .cons (r F) (rs F)⟩
end
/-- the module's name x stands for d -/
def gdB (x : Str) (d : D) (K : PySem.W.Frag) : Bool := match PySem.W.nsIn K mainGlobals x with
  | some (some (.ref a)) => repB K d (.ref a)
  | _ => false
theorem gd_ok {K : PySem.W.Frag} {h : Heap} {mg : Str → Option Value} {x : Str} {d : D} (X : K.In h) (G : h.Ns mainGlobals mg) (c : gdB x d K = true) : GD K mg x d := by
  unfold gdB at c
  cases e : PySem.W.nsIn K mainGlobals x with
  | none => rw [e] at c; cases c
  | some r =>
    rw [e] at c
    cases r with
    | none => cases c
    | some u =>
      cases u with
      | ref a =>
        obtain ⟨v, rv, r⟩ := repB_ok d (.ref a) c
        have ev : v = .ref a := (rv.inj (show RelV (.ref a) (.ref a) from rfl))
        subst ev
        exact ⟨a, PySem.W.mg_of X G e, r⟩
      | _ => cases c
/-! ### tables of the module, keys texts -/
abbrev TabD : Type := List (Str × D)
def lookD : TabD → Str → Option D
  | [], _ => none
  | p :: r, z => if p.1 = z then some p.2 else lookD r z
/-- the module's name x is a dict of these -/
structure KT (K : PySem.W.Frag) (w : World) (mg : Str → Option Value) (x : Str) (tab : TabD) : Prop where
  run : ∃ a, mg x = some (.ref a) ∧ (∃ es n, KDict K w a es n) ∧ ∀ z, (lookD tab z = none → PySem.W.nsIn K a z = some none) ∧ ∀ d, lookD tab z = some d → ∃ u v, PySem.W.nsIn K a z = some (some u) ∧ RelV v u ∧ ∀ F, Rep K F v d
def tabB (x : Str) (tab : TabD) (K : PySem.W.Frag) : Bool := match PySem.W.nsIn K mainGlobals x with
  | some (some (.ref a)) => decide (a = He.ga K x) && tab.all fun q => match PySem.W.nsIn K a q.1 with
    | some (some u) => repB K q.2 u
    | _ => false
  | _ => false
theorem nsIn_out {P : Params} {l : List DictEntry} {ks : List Str} (h : l.map He.keyOf = He.keysIn P ks) {z : Str} (hz : z ∉ ks) : l.find? (·.key.isStr z) = none ∧ l.any (·.refKey) = false := by
  induction l generalizing ks with
  | nil => exact ⟨rfl, rfl⟩
  | cons e r ih =>
    cases ks with
    | nil => cases h
    | cons k ks =>
      have h1 : He.keyOf e :: r.map He.keyOf = some (k, PyData.keyHash P k) :: He.keysIn P ks := h
      injection h1 with h2 h3
      obtain ⟨i1, i2⟩ := ih h3 fun hm => hz (List.mem_cons_of_mem _ hm)
      unfold He.keyOf at h2
      split at h2
      · rename_i x t q
        obtain ⟨h5, h6⟩ := Prod.mk.inj (Option.some.inj h2)
        have hne : e.key.isStr z = false := by
          rw [q]
          subst h5
          have hn : x ≠ z := fun e => hz (e ▸ List.mem_cons_self)
          show (x == z) = false
          exact beq_eq_false_iff_ne.mpr hn
        refine ⟨by rw [List.find?_cons, hne]; exact i1, ?_⟩
        rw [List.any_cons, i2]
        have : e.refKey = false := by
          unfold DictEntry.refKey
          rw [q]
        rw [this]; rfl
      · cases h2
theorem lookD_none : ∀ {tab : TabD} {z : Str}, lookD tab z = none → z ∉ tab.map (·.1)
  | [], _, _ => by simp
  | p :: r, z, h => by
    unfold lookD at h
    split at h
    · cases h
    · rename_i hn
      intro hm
      rcases List.mem_cons.mp hm with e | hm
      · exact hn e.symm
      · exact lookD_none h hm
theorem lookD_some : ∀ {tab : TabD} {z : Str} {d : D}, lookD tab z = some d → (z, d) ∈ tab
  | [], _, _, h => by cases h
  | p :: r, z, d, h => by
    unfold lookD at h
    split at h
    · rename_i e
      cases h
      subst e
      exact List.mem_cons_self
    · exact List.mem_cons_of_mem _ (lookD_some h)
theorem kt_ok {K : PySem.W.Frag} {w : World} {h : Heap} {mg : Str → Option Value} {x : Str} {tab : TabD} (X : K.In h) (G : h.Ns mainGlobals mg) (c : tabB x tab K = true) (hd : He.dicW K (He.ga K x) = some (He.keysIn w.params (tab.map (·.1)))) : KT K w mg x tab := by
  unfold tabB at c
  cases e : PySem.W.nsIn K mainGlobals x with
  | none => rw [e] at c; cases c
  | some r =>
    rw [e] at c
    cases r with
    | none => cases c
    | some u =>
      cases u with
      | ref a =>
        dsimp only at c
        simp only [Bool.and_eq_true, decide_eq_true_eq] at c
        obtain ⟨c1, c2⟩ := c
        obtain ⟨es, n, kd⟩ := He.dicW_ok hd
        rw [← c1] at kd
        refine ⟨a, PySem.W.mg_of X G e, ⟨es, n, kd⟩, fun z => ⟨fun hz => ?_, fun d hz => ?_⟩⟩
        · have hk := lookD_none hz
          rw [← c1] at hd
          unfold He.dicW at hd
          rw [kd.at_] at hd
          dsimp only at hd
          split at hd
          case h_2 => cases hd
          have := nsIn_out (Option.some.inj hd) hk
          unfold PySem.W.nsIn
          rw [kd.at_]
          dsimp only
          rw [this.1]
          simp only [this.2]
          rfl
        · have hm := List.all_eq_true.mp c2 _ (lookD_some hz)
          dsimp only at hm
          cases hn : PySem.W.nsIn K a z with
          | none => rw [hn] at hm; cases hm
          | some r =>
            rw [hn] at hm
            cases r with
            | none => cases hm
            | some u =>
              obtain ⟨v, rv, r⟩ := repB_ok d u hm
              exact ⟨u, v, rfl, rv, r⟩
      | _ => cases c
section
variable {X : Cx} {C : Cs} {ks : List SK} {a : Expr} {fa : Env → Out D} {pos px : Pos} {x : Str} {tab : TabD}
def xKIn (tab : TabD) (neg : Bool) (fa : Env → Out D) : Env → Out D := fun ρ => (fa ρ).bind fun d ρ1 => match d with
  | .str z => .ok (.bool (if neg then !(lookD tab z).isSome else (lookD tab z).isSome)) ρ1
  | _ => .bad
theorem kin_run {op : CmpOp} {neg : Bool} {aa : Addr} {es : Array DictEntry} {n : Nat} (hop : OpR X (compareOp op) (fun x y H Q => ∃ (z : Str) (r : Option Value), x = .str z ∧ y = .ref aa ∧ PySem.W.nsIn X.K aa z = some r ∧ Q (.bl (if neg then !r.isSome else r.isSome)) H))
    (hT : ∀ z, (lookD tab z = none → PySem.W.nsIn X.K aa z = some none) ∧ ∀ d, lookD tab z = some d → ∃ u v, PySem.W.nsIn X.K aa z = some (some u) ∧ RelV v u ∧ ∀ F, Rep X.K F v d) (ha : EOk X C ks .im a fa) {p : Option Addr} {G : Hp} {ρ : Env} {σ : Sg} {F H : Hp} {Q : VK}
    (S : SR X.K C.io ks p G [] ρ σ F H) (q : PostG X.K C p G F (xKIn tab neg fa ρ) (fun d ρ' F' H' => ∀ v, ROk X.K C.io ks p G ρ' σ .im d F' H' v → Q v H')) : WE X a σ H fun x H1 => WO X (compareOp op) x (.ref aa) H1 Q := by
  refine ha.then S q fun d ρ1 F1 H1 v s1 S1 r1 q1 => ?_
  cases r1 with
  | str z =>
    refine wo_of hop ⟨z, ?_⟩
    have q2 := q1 F1 H1 (Same.refl _) (.bl (if neg then !(lookD tab z).isSome else (lookD tab z).isSome)) (.of S1 (.bl _))
    cases hz : lookD tab z with
    | none =>
      rw [hz] at q2
      exact ⟨none, rfl, rfl, (hT z).1 hz, q2⟩
    | some d =>
      rw [hz] at q2
      obtain ⟨u, v, e, _⟩ := (hT z).2 d hz
      exact ⟨some u, rfl, rfl, e, q2⟩
  | _ => exact q1.elim
theorem e_kin (T : KT X.K X.w X.mg x tab) (ha : EOk X C ks .im a fa) (hg : Gl X x := by rfl) (hdb : (x == ("__debug__" : Str)) = false := by decide) (hm : behindInMarks .In (.Name x px) = false := by rfl) : EOk X C ks .im (.Compare a [.In] [.Name x px] pos) (xKIn tab false fa) := fun p G ρ σ F H Q S q => by
  obtain ⟨aa, hmg, ⟨es, n, kd⟩, hT⟩ := T.run
  exact we_of (pe_cmpR wo_op pe_we (pe_glob (v := .ref aa) hg hmg rfl hdb) hm) (kin_run (neg := false) (es := es) (n := n) (op_in_kd kd) hT ha S q)
theorem e_kni (T : KT X.K X.w X.mg x tab) (ha : EOk X C ks .im a fa) (hg : Gl X x := by rfl) (hdb : (x == ("__debug__" : Str)) = false := by decide) (hm : behindInMarks .NotIn (.Name x px) = false := by rfl) : EOk X C ks .im (.Compare a [.NotIn] [.Name x px] pos) (xKIn tab true fa) := fun p G ρ σ F H Q S q => by
  obtain ⟨aa, hmg, ⟨es, n, kd⟩, hT⟩ := T.run
  exact we_of (pe_cmpR wo_op pe_we (pe_glob (v := .ref aa) hg hmg rfl hdb) hm) (kin_run (neg := true) (es := es) (n := n) (op_notIn_kd kd) hT ha S q)
theorem t_kin (T : KT X.K X.w X.mg x tab) (ha : EOk X C ks .im a fa) (hg : Gl X x := by rfl) (hdb : (x == ("__debug__" : Str)) = false := by decide) (hm : behindInMarks .In (.Name x px) = false := by rfl) : TOk X C ks (.Compare a [.In] [.Name x px] pos) (xB (xKIn tab false fa)) := fun p G ρ σ F H Q S q => by
  obtain ⟨aa, hmg, ⟨es, n, kd⟩, hT⟩ := T.run
  have q' : PostG X.K C p G F (xKIn tab false fa ρ) (fun d ρ' F' H' => ∀ v, ROk X.K C.io ks p G ρ' σ .im d F' H' v → ∃ k, v = V.bl k ∧ Q k H') := q.bind.imp fun d ρ1 F1 H1 s1 q1 v r => by
    obtain ⟨S1, r1⟩ := r.im
    cases r1 with
    | bl x => exact ⟨x, rfl, q1 F1 H1 (Same.refl _) S1⟩
    | _ => exact q1.elim
  exact wt_of (pt_cmpR wo_op pe_we (pe_glob (v := .ref aa) hg hmg rfl hdb) hm) (kin_run (neg := false) (es := es) (n := n) (op_in_kd kd) hT ha S q')
def xKIx (tab : TabD) (fa : Env → Out D) : Env → Out D := fun ρ => (fa ρ).bind fun d ρ1 => match d with
  | .str z => lift (lookD tab z) ρ1
  | _ => .bad
theorem e_kix (T : KT X.K X.w X.mg x tab) (ha : EOk X C ks .im a fa) (hg : Gl X x := by rfl) (hdb : (x == ("__debug__" : Str)) = false := by decide) (hs : PlainIx a := by intro _ _; rfl) : EOk X C ks .im (.Subscript (.Name x px) a pos) (xKIx tab fa) := fun p G ρ σ F H Q S q => by
  obtain ⟨aa, hmg, ⟨es, n, kd⟩, hT⟩ := T.run
  refine we_of (pe_ix wix_ix (pe_glob (v := .ref aa) hg hmg rfl hdb) pe_we hs) ?_
  refine ha.then S q fun d ρ1 F1 H1 v s1 S1 r1 q1 => ?_
  cases r1 with
  | str z =>
    obtain ⟨d, e, q2⟩ := post_lift (β := Unit) q1
    obtain ⟨u, v, e2, rv, r⟩ := (hT z).2 d e
    exact wix_of ix_kdict ⟨aa, z, v, rfl, rfl, ⟨es, n, u, kd.at_, kd.lit, e2, rv⟩, q2 F1 H1 (Same.refl _) v (.of S1 (r F1))⟩
  | _ => exact q1.elim
end
end De
set_option maxHeartbeats 4000000
/-! De17: what the top is asked; a law's end. -/
namespace De
open PySem PySem.Spec PyProof.Rows L2
/-! ### the top, with own questions -/
abbrev Qs : Type := List (PySem.W.Frag → Bool)
abbrev AlU : Type := He.AlT × Bool
def seeU (fa : List He.Fa) (fn : List He.DefD) (ts : List He.Tab) (qs : Qs) (K : PySem.W.Frag) : AlU := (He.obsT fa fn ts K, qs.all fun q => q K)
def dueU (fn : List He.DefD) (ts : List He.Tab) (w : World) : AlU := (He.valT fn ts w, true)
def seeG (n : Nat) (fa : List He.Fa) (fn : List He.DefD) (ts : List He.Tab) (qs : Qs) (g : Addr → Option Obj) : AlU := seeU fa fn ts qs (He.frG g (He.asD g n))
def SaysU (fa : List He.Fa) (fn : List He.DefD) (ts : List He.Tab) (qs : Qs) (w : World) (K : PySem.W.Frag) : Prop := seeU fa fn ts qs K = dueU fn ts w
def hookU (n : Nat) (fa : List He.Fa) (fn : List He.DefD) (ts : List He.Tab) (qs : Qs) : PySem.W.Hook where
  α := AlU
  obs := fun st => seeG n fa fn ts qs st.heap.get?
  val := fun world => dueU fn ts world
  says := fun world hp => ∃ K : PySem.W.Frag, K.In hp ∧ SaysU fa fn ts qs world K
  of := fun _ _ told => ⟨_, He.frG_in, told⟩
  keeps := fun _ _ _ ⟨K, inn, told⟩ kp => ⟨K, PySem.W.Frag.In.keeps inn kp, told⟩
theorem seeG_eq {n : Nat} {fa : List He.Fa} {fn : List He.DefD} {ts : List He.Tab} {qs : Qs} {g : Addr → Option Obj} {st : Shared} (same : ∀ a, g a = st.heap.get? a) : seeG n fa fn ts qs g = (hookU n fa fn ts qs).obs st := by
  have gg : g = st.heap.get? := funext same
  rw [gg] <;> rfl
section
variable {fa : List He.Fa} {fn : List He.DefD} {ts : List He.Tab} {qs : Qs} {w : World} {K : PySem.W.Frag}
theorem SaysU.t (c : SaysU fa fn ts qs w K) : He.SaysT fa fn ts w K := congrArg (fun z : AlU => z.1) c
theorem SaysU.d (c : SaysU fa fn ts qs w K) : He.SaysD fa fn K := c.t.d
theorem SaysU.q (c : SaysU fa fn ts qs w K) (i : Nat) {q : PySem.W.Frag → Bool} (h : qs[i]? = some q := by rfl) : q K = true := by
  have e : (qs.all fun q => q K) = true := congrArg (fun z : AlU => z.2) c
  exact List.all_eq_true.mp e q (List.mem_of_getElem? h)
theorem SaysU.tab (c : SaysU fa fn ts qs w K) (i : Nat) {t : He.Tab} (h : ts[i]? = some t := by rfl) : He.dicW K (t.1 K) = some (He.keysIn w.params t.2) := by
  have e : ts.map (fun t => He.dicW K (t.1 K)) = ts.map fun t => some (He.keysIn w.params t.2) := congrArg (fun z : He.AlT => z.2) c.t
  have e2 := congrArg (fun l => l[i]?) e
  simp only [List.getElem?_map, h, Option.map_some] at e2
  exact Option.some.inj e2
end
/-! ### a law's end -/
theorem FnG.ran {P : Program} {w : World} {K : PySem.W.Frag} {mg mb : Str → Option Value} {xt : Nat → Addr × Str} {k : Nat} {fa a : Addr} {fd : FuncData} {x : Str} {g : List D → Out D} {st : Shared} {H : Hp} {vs : List Value} {ns : List Int} {ob : Obj}
    (inn : K.In st.heap) (nm : st.heap.Ns mainGlobals mg) (nb : st.heap.Ns builtinsNs mb) (bb : ∀ x : Str, x ≠ "__name__" → mb x = bootBuiltins x) (lim : st.heap.NoLimit) (ng : st.gens = #[]) (room : Room k callerA) (at_ : st.heap.get? a = some ob) (dat : ob.data = .seq vs.toArray 0)
    (Fn : ∀ base : Heap, K.In base → base.Ns mainGlobals mg → FnD P w K mg base xt k fa fd [x] ⟨false, [.sc], [.sc], .im⟩ g) (bind : ∀ (s : Shared) (u : Value), BindsTo s fd ⟨[u], []⟩ [(x, u)])
    (ok : HOk P w H st.heap) (only : ∀ b, H b = none ∨ (b = a ∧ K.lookup a = none ∧ ∃ o xs, H b = some (.frz o (.lst xs)))) (seq : SqL K H a (ns.map V.int)) (res : ∃ ρ, g [.list (ns.map .int)] = .ok (.bool true) ρ) :
    codeAny (model P w) callerA (.call (.ref fa) ⟨[.ref a], []⟩) (fun r s' => r = .ok (.ret (.bool true)) ∧ OldK st.heap s'.heap ∧ s'.os = st.os ∧ AllBare s'.gens) st := by
  have free : ∀ {b : Addr}, b ≠ a → H b = none := fun {b} hb => (only b).resolve_right fun z => hb z.1
  have low : ∀ {b : Addr} {o : Obj}, st.heap.get? b = some o → b ≠ a → (hidT st.heap H).get? b = some o := fun e n => hidT_get e (free n)
  have notA : ∀ {b : Addr} {o : Obj} {es : Array DictEntry} {ep : Nat}, st.heap.get? b = some o → o.data = .dict es ep → b ≠ a := fun e d z => by
    subst z
    rw [at_] at e
    cases e
    rw [dat] at d
    cases d
  have ns1 : ∀ {b : Addr} {m : Str → Option Value}, st.heap.Ns b m → (hidT st.heap H).Ns b m := fun ⟨o, es, ep, e, d, r⟩ => ⟨o, es, ep, low e (notA e d), d, r⟩
  have inn1 : K.In (hidT st.heap H) := fun b o e => by
    rcases only b with z | ⟨z, z2, _⟩
    · exact hidT_get (inn b o e) z
    · rw [z, z2] at e; cases e
  have md : Mod K mg (hidT st.heap H) := ⟨inn1, ns1 nm, ⟨mb, ns1 nb, bb⟩, let ⟨mc, l1, l2⟩ := lim; ⟨mc, ns1 l1, l2⟩⟩
  have env : Env0 P w K mg (hidT st.heap H) callerA [] st H := ⟨rfl, md, (fun _ _ e => of_hidT e), Nat.le_of_eq (hidT_size _ _), trivial, (fun b hb => nomatch (show b ∈ ([] : List Addr) from hb)), ok, .of_eq ng⟩
  have want : spD K xt ⟨false, [.sc], [.sc], .im⟩ 1 g [.ref a] H (fun v _ => v = .bl true) (fun _ _ _ => False) := by
    obtain ⟨ρ, er⟩ := res
    have ri : ∀ l : List Int, RepA K H (l.map V.int) (l.map PyData.int) := fun l => by
      induction l with
      | nil => exact .nil
      | cons i l ih => exact .cons (.int i) ih
    refine ⟨none, fun _ => none, [.list (ns.map .int)], H, rfl, ⟨Same.refl _, rfl, fun _ => rfl, (fun a z => nomatch z), (fun b o z => nomatch z), (fun b o z => nomatch z), fun _ => [], fun i => ?_, fun _ => List.nodup_nil, (fun _ _ _ z => nomatch z), (fun _ _ z => nomatch z)⟩, ?_⟩
    · cases i with
      | zero => exact ⟨rfl, a, ns.map V.int, ns.map .int, rfl, rfl, seq, ri ns⟩
      | succ i =>
        have e1 : ([PyData.list (ns.map .int)].map some)[i + 1]?.join = none := by simp
        rw [e1]
        exact SlotR.none'
    · rw [er]
      intro F' H' s σ v r
      cases r.im.2 with
      | bl => rfl
  refine codeAny_mono ((Fn _ inn1 (ns1 nm)).go callerA [] st H ⟨[.ref a], []⟩ [.ref a] [.ref a] _ _ rfl room env (bind st (.ref a)) (.cons rfl .nil) want) fun r s' h => ?_
  cases r with
  | error e =>
    obtain ⟨_, _, _, _, _, z⟩ := h
    exact z.2.2.2.2.2.2.2.elim
  | ok fl =>
    cases fl with
    | ret u =>
      obtain ⟨v, H', os, bare, un, ok', rv, e⟩ := h
      subst e
      cases (show u = Value.bool true from rv)
      refine ⟨rfl, OldK.of_keep fun b o e => ?_, os, bare⟩
      rcases only b with z | ⟨z, _, oo, xs, z2⟩
      · exact un.keep b o e z (fun m => nomatch m) (by simp)
      · obtain ⟨e1, _⟩ := ok b _ z2
        obtain ⟨e2, _⟩ := ok' b _ (un.frzs b oo _ z2)
        rw [e] at e1
        cases e1
        exact e2
    | _ => exact False.elim h
/-- a law whose def keeps its promise where no repr is under way -/
theorem walkD {l : PySem.W.OpenLaw} {n k : Nat} {q : Program} {loose : List Str} {XP : (Str → Option Value) → Heap → Prop} {YP : World → Heap → Prop} {d : DefRec} {x : Str} (hn : l.most = some n) (small : n ≤ sizeLine) (nod : d.params.defaults = []) (room : Room k callerA)
    (F : ∀ (w : World) (mg : Str → Option Value) (fa : Addr) (h : Heap), YP w h → h.Ns mainGlobals mg → mg d.name = some (.ref fa) →
      ∃ (K : PySem.W.Frag) (fd : FuncData) (xt : Nat → Addr × Str) (g : List D → Out D), K.In h ∧ (∀ (s : Shared) (u : Value), BindsTo s fd ⟨[u], []⟩ [(x, u)]) ∧ (∀ ns : List Int, ns.length ≤ n → ∃ ρ, g [.list (ns.map .int)] = .ok (.bool true) ρ) ∧
        ∀ base : Heap, K.In base → base.Ns mainGlobals mg → FnD l.prog w K mg base xt k fa fd [x] ⟨false, [.sc], [.sc], .im⟩ g) :
    PySem.W.WalkO q loose XP YP l.row.toRowW d [] (fun f vs => PySem.call f vs) := by
  refine Att.attach_call hn nod fun w s0 st mg mb fa o pm cd doc a vs ns G Y ho hd hcd hmg hobj hi hlen ng => ?_
  obtain ⟨K, fd, xt, g, inn, bind, res, Fn⟩ := F w mg fa _ Y G.T.g hmg
  have rv := vals_ints hi
  have lv : vs.length = ns.length := by rw [← rv.length, List.length_map]
  have big : ns.length ≤ sizeLine := Nat.le_trans hlen small
  cases hk : K.lookup a with
  | some ob =>
    have e := inn a ob hk
    rw [hobj] at e
    cases e
    exact FnG.ran (H := fun _ => none) (ns := ns) inn G.T.g G.T.b G.T.builtins G.T.nolimit ng room hobj rfl Fn bind (fun b u z => nomatch z) (fun b => .inl rfl)
      (.inr ⟨_, vs.toArray, _, hk, rfl, rfl, rfl, by rw [List.size_toArray, lv]; exact big, by simpa using rv⟩) (res ns hlen)
  | none =>
    have hH : ∀ b, (fun c => if c = a then some (HO.frz { cls := .type "list", data := .seq vs.toArray } (.lst (ns.map V.int))) else none : Hp) b = none ∨ b = a := fun b => by
      by_cases e : b = a
      · exact .inr e
      · exact .inl (if_neg e)
    refine FnG.ran (H := fun c => if c = a then some (.frz { cls := .type "list", data := .seq vs.toArray } (.lst (ns.map V.int))) else none) (ns := ns) inn G.T.g G.T.b G.T.builtins G.T.nolimit ng room hobj rfl Fn bind (fun b u z => ?_) (fun b => ?_)
      (.inl (.inr ⟨_, if_pos rfl⟩)) (res ns hlen)
    · rcases hH b with e | e
      · rw [e] at z; cases z
      · subst e
        have z' := (if_pos rfl).symm.trans z
        cases z'
        exact ⟨hobj, by rw [List.length_map]; exact big, vs, _, rv, hobj⟩
    · rcases hH b with e | e
      · exact .inl e
      · subst e
        exact .inr ⟨rfl, hk, _, _, if_pos rfl⟩
end De
set_option maxHeartbeats 4000000
/-! De18: a def called by its names in order. -/
namespace De
open PySem PySem.Spec L2
section
variable {K : PySem.W.Frag} {x qual : Str} {params : Arguments} {body : List Stmt} {scope : Scope} {kws : List (Str × V)} {f : Addr} {fd : FuncData} {ps : List Str}
theorem FunD.kwB (U : FunD K x qual params body scope [] kws f fd)
    (b : ∀ (kV doc pm : Value) (an : Option Addr) (cdv ct : Value) (ws : List Value), ws.length = ps.length → bindArgs (PySem.W.fnOf x qual params body scope .none kV doc pm an cdv ct) ⟨[], ps.zip ws⟩ = pure (ps.zip ws)) : KwB K fd ps ps id id := by
  obtain ⟨_, _, _, kV, doc, pm, an, cdv, ct, _, rfl, _, _, dfl, _⟩ := U.ex
  rcases dfl with ⟨_, rfl⟩ | ⟨no, _⟩
  · exact ⟨fun s ws _ hl => .of_eq (b kV doc pm an cdv ct ws hl), fun r => r⟩
  · exact absurd rfl no
end
def blkB (N : List Str) (sc scope : Scope) (own : List (Str × Nat)) : Bool :=
  decide (scope.kind = .function) && (scope.names.all (fun y => decide (scope.names.lookup y.1 = some y.2)) && (own.all (fun p => decide (N[p.2]? = some p.1)) &&
    (scope.names.all (fun y => !decide (y.2 = .free) || (decide (sc.names.lookup y.1 = some .cell) || decide (sc.names.lookup y.1 = some .free))) &&
      scope.names.all (fun y => !(decide (y.2 = .local) || decide (y.2 = .cell)) || (decide (y.1 ∈ own.map (·.1)) || !decide (y.1 ∈ N))))))
theorem blk_ok {N : List Str} {sc scope : Scope} {own : List (Str × Nat)} (h : blkB N sc scope own = true) : BlkOk N sc scope own := by
  unfold blkB at h
  simp only [Bool.and_eq_true, List.all_eq_true, decide_eq_true_eq, Bool.or_eq_true, Bool.not_eq_true', decide_eq_false_iff_not] at h
  obtain ⟨h1, h2, h3, h4, h5⟩ := h
  refine ⟨h1, h2, h3, fun y hy e => ?_, fun y hy e => ?_⟩
  · exact (h4 y hy).resolve_left (fun z => z e)
  · refine (h5 y hy).resolve_left fun z => ?_
    rw [← Bool.not_eq_true, Bool.or_eq_true, decide_eq_true_eq, decide_eq_true_eq] at z
    exact z e
end De
set_option maxHeartbeats 4000000
namespace C95
open PySem PySem.Spec L2 De
def top (i : Nat) : Stmt := PySem.Challenge.pw_curvemeets_k95_any_string_as_command.main.body.getD i (.Pass ⟨0, 0, 0, 0⟩)
abbrev s_trimmed : Stmt := top 1
abbrev s_trimmed_plane : Stmt := top 3
abbrev s_behind_blanks : Stmt := top 13
abbrev s_behind_numeral : Stmt := top 14
abbrev s_read_letters : Stmt := top 15
abbrev s_read_term : Stmt := top 16
abbrev s_read_sum : Stmt := top 17
abbrev s_read_sums : Stmt := top 18
abbrev s_line_by : Stmt := top 19
abbrev s_plane_by : Stmt := top 20
abbrev s_straight_numbers : Stmt := top 21
abbrev s_told_by : Stmt := top 22
abbrev s_told_line : Stmt := top 23
abbrev s_told_plane : Stmt := top 24
abbrev s_told_lines : Stmt := top 25
abbrev s_told_numbers : Stmt := top 26
abbrev s_is_name : Stmt := top 52
abbrev s_figures_in : Stmt := top 53
abbrev s_count_in : Stmt := top 54
abbrev s_short_number : Stmt := top 55
abbrev s_has_long_numeral : Stmt := top 56
abbrev s_text_in : Stmt := top 57
abbrev s_told_of_kind : Stmt := top 58
abbrev s_kinds_of : Stmt := top 59
abbrev s_command_parts : Stmt := top 60
abbrev s_is_command : Stmt := top 61
abbrev s_is_deed : Stmt := top 62
abbrev s__law_pot : Stmt := top 64
abbrev s__law_draw : Stmt := top 65
abbrev s__law_pick : Stmt := top 66
abbrev s__law_texts : Stmt := top 67
abbrev s__law_deeds : Stmt := top 68
abbrev s__law_asks : Stmt := top 69
abbrev s__law_claims : Stmt := top 70
abbrev s__law_is_name : Stmt := top 71
abbrev s__law_is_count : Stmt := top 72
abbrev s__law_fits : Stmt := top 73
abbrev s__law_due : Stmt := top 74
abbrev s__law_part : Stmt := top 75
abbrev s__law_string : Stmt := top 76
abbrev s_law : Stmt := top 77
def D_trimmed : He.DefD := ⟨("trimmed", none), "trimmed", "trimmed", defArgs s_trimmed, defBody s_trimmed, defScope s_trimmed, [], []⟩
def D_trimmed_plane : He.DefD := ⟨("trimmed_plane", none), "trimmed_plane", "trimmed_plane", defArgs s_trimmed_plane, defBody s_trimmed_plane, defScope s_trimmed_plane, [], []⟩
def D_behind_blanks : He.DefD := ⟨("behind_blanks", none), "behind_blanks", "behind_blanks", defArgs s_behind_blanks, defBody s_behind_blanks, defScope s_behind_blanks, [], []⟩
def D_behind_numeral : He.DefD := ⟨("behind_numeral", none), "behind_numeral", "behind_numeral", defArgs s_behind_numeral, defBody s_behind_numeral, defScope s_behind_numeral, [], []⟩
def D_read_letters : He.DefD := ⟨("read_letters", none), "read_letters", "read_letters", defArgs s_read_letters, defBody s_read_letters, defScope s_read_letters, [], []⟩
def D_read_term : He.DefD := ⟨("read_term", none), "read_term", "read_term", defArgs s_read_term, defBody s_read_term, defScope s_read_term, [], []⟩
def D_read_sum : He.DefD := ⟨("read_sum", none), "read_sum", "read_sum", defArgs s_read_sum, defBody s_read_sum, defScope s_read_sum, [], []⟩
def D_read_sums : He.DefD := ⟨("read_sums", none), "read_sums", "read_sums", defArgs s_read_sums, defBody s_read_sums, defScope s_read_sums, [], []⟩
def D_line_by : He.DefD := ⟨("line_by", none), "line_by", "line_by", defArgs s_line_by, defBody s_line_by, defScope s_line_by, [], []⟩
def D_plane_by : He.DefD := ⟨("plane_by", none), "plane_by", "plane_by", defArgs s_plane_by, defBody s_plane_by, defScope s_plane_by, [], []⟩
def D_straight_numbers : He.DefD := ⟨("straight_numbers", none), "straight_numbers", "straight_numbers", defArgs s_straight_numbers, defBody s_straight_numbers, defScope s_straight_numbers, [], []⟩
def D_told_by : He.DefD := ⟨("told_by", none), "told_by", "told_by", defArgs s_told_by, defBody s_told_by, defScope s_told_by, [], []⟩
def D_told_line : He.DefD := ⟨("told_line", none), "told_line", "told_line", defArgs s_told_line, defBody s_told_line, defScope s_told_line, [], []⟩
def D_told_plane : He.DefD := ⟨("told_plane", none), "told_plane", "told_plane", defArgs s_told_plane, defBody s_told_plane, defScope s_told_plane, [], []⟩
def D_told_lines : He.DefD := ⟨("told_lines", none), "told_lines", "told_lines", defArgs s_told_lines, defBody s_told_lines, defScope s_told_lines, [], []⟩
def D_told_numbers : He.DefD := ⟨("told_numbers", none), "told_numbers", "told_numbers", defArgs s_told_numbers, defBody s_told_numbers, defScope s_told_numbers, [], []⟩
def D_is_name : He.DefD := ⟨("is_name", none), "is_name", "is_name", defArgs s_is_name, defBody s_is_name, defScope s_is_name, [], []⟩
def D_figures_in : He.DefD := ⟨("figures_in", none), "figures_in", "figures_in", defArgs s_figures_in, defBody s_figures_in, defScope s_figures_in, [], []⟩
def D_count_in : He.DefD := ⟨("count_in", none), "count_in", "count_in", defArgs s_count_in, defBody s_count_in, defScope s_count_in, [], []⟩
def D_short_number : He.DefD := ⟨("short_number", none), "short_number", "short_number", defArgs s_short_number, defBody s_short_number, defScope s_short_number, [], []⟩
def D_has_long_numeral : He.DefD := ⟨("has_long_numeral", none), "has_long_numeral", "has_long_numeral", defArgs s_has_long_numeral, defBody s_has_long_numeral, defScope s_has_long_numeral, [], []⟩
def D_text_in : He.DefD := ⟨("text_in", none), "text_in", "text_in", defArgs s_text_in, defBody s_text_in, defScope s_text_in, [], []⟩
def D_told_of_kind : He.DefD := ⟨("told_of_kind", none), "told_of_kind", "told_of_kind", defArgs s_told_of_kind, defBody s_told_of_kind, defScope s_told_of_kind, [], []⟩
def D_kinds_of : He.DefD := ⟨("kinds_of", none), "kinds_of", "kinds_of", defArgs s_kinds_of, defBody s_kinds_of, defScope s_kinds_of, [], []⟩
def D_command_parts : He.DefD := ⟨("command_parts", none), "command_parts", "command_parts", defArgs s_command_parts, defBody s_command_parts, defScope s_command_parts, [], []⟩
def D_is_command : He.DefD := ⟨("is_command", none), "is_command", "is_command", defArgs s_is_command, defBody s_is_command, defScope s_is_command, [], []⟩
def D_is_deed : He.DefD := ⟨("is_deed", none), "is_deed", "is_deed", defArgs s_is_deed, defBody s_is_deed, defScope s_is_deed, [], []⟩
def D__law_pot : He.DefD := ⟨("_law_pot", none), "_law_pot", "_law_pot", defArgs s__law_pot, defBody s__law_pot, defScope s__law_pot, [], []⟩
def D__law_draw : He.DefD := ⟨("_law_draw", none), "_law_draw", "_law_draw", defArgs s__law_draw, defBody s__law_draw, defScope s__law_draw, [], []⟩
def D__law_pick : He.DefD := ⟨("_law_pick", none), "_law_pick", "_law_pick", defArgs s__law_pick, defBody s__law_pick, defScope s__law_pick, [], []⟩
def D__law_texts : He.DefD := ⟨("_law_texts", none), "_law_texts", "_law_texts", defArgs s__law_texts, defBody s__law_texts, defScope s__law_texts, [], []⟩
def D__law_deeds : He.DefD := ⟨("_law_deeds", none), "_law_deeds", "_law_deeds", defArgs s__law_deeds, defBody s__law_deeds, defScope s__law_deeds, [], []⟩
def D__law_asks : He.DefD := ⟨("_law_asks", none), "_law_asks", "_law_asks", defArgs s__law_asks, defBody s__law_asks, defScope s__law_asks, [], []⟩
def D__law_claims : He.DefD := ⟨("_law_claims", none), "_law_claims", "_law_claims", defArgs s__law_claims, defBody s__law_claims, defScope s__law_claims, [], []⟩
def D__law_is_name : He.DefD := ⟨("_law_is_name", none), "_law_is_name", "_law_is_name", defArgs s__law_is_name, defBody s__law_is_name, defScope s__law_is_name, [], []⟩
def D__law_is_count : He.DefD := ⟨("_law_is_count", none), "_law_is_count", "_law_is_count", defArgs s__law_is_count, defBody s__law_is_count, defScope s__law_is_count, [], []⟩
def D__law_fits : He.DefD := ⟨("_law_fits", none), "_law_fits", "_law_fits", defArgs s__law_fits, defBody s__law_fits, defScope s__law_fits, [], []⟩
def D__law_due : He.DefD := ⟨("_law_due", none), "_law_due", "_law_due", defArgs s__law_due, defBody s__law_due, defScope s__law_due, [], []⟩
def D__law_part : He.DefD := ⟨("_law_part", none), "_law_part", "_law_part", defArgs s__law_part, defBody s__law_part, defScope s__law_part, [], []⟩
def D__law_string : He.DefD := ⟨("_law_string", none), "_law_string", "_law_string", defArgs s__law_string, defBody s__law_string, defScope s__law_string, [], []⟩
def D_law : He.DefD := ⟨("law", none), "law", "law", defArgs s_law, defBody s_law, defScope s_law, [], []⟩
def fn : List He.DefD := [D_trimmed, D_trimmed_plane, D_behind_blanks, D_behind_numeral, D_read_letters, D_read_term, D_read_sum, D_read_sums, D_line_by, D_plane_by, D_straight_numbers, D_told_by, D_told_line, D_told_plane, D_told_lines, D_told_numbers, D_is_name, D_figures_in, D_count_in, D_short_number, D_has_long_numeral, D_text_in, D_told_of_kind, D_kinds_of, D_command_parts, D_is_command, D_is_deed, D__law_pot, D__law_draw, D__law_pick, D__law_texts, D__law_deeds, D__law_asks, D__law_claims, D__law_is_name, D__law_is_count, D__law_fits, D__law_due, D__law_part, D__law_string, D_law]
def fa : List He.Fa := [.glo "trimmed", .glo "trimmed_plane", .glo "behind_blanks", .glo "behind_numeral", .glo "read_letters", .glo "read_term", .glo "read_sum", .glo "read_sums", .glo "line_by", .glo "plane_by", .glo "straight_numbers", .glo "told_by", .glo "told_line", .glo "told_plane", .glo "told_lines", .glo "told_numbers", .glo "is_name", .glo "figures_in", .glo "count_in", .glo "short_number", .glo "has_long_numeral", .glo "text_in", .glo "told_of_kind", .glo "kinds_of", .glo "command_parts", .glo "is_command", .glo "is_deed", .glo "_law_pot", .glo "_law_draw", .glo "_law_pick", .glo "_law_texts", .glo "_law_deeds", .glo "_law_asks", .glo "_law_claims", .glo "_law_is_name", .glo "_law_is_count", .glo "_law_fits", .glo "_law_due", .glo "_law_part", .glo "_law_string", .glo "law", .free "len", .free "list", .free "sum", .free "int", .free "max", .free "abs", .free "range", .free "zip", .free "isinstance", .free "str", .free "any", .free "all", .free "divmod", .free "sorted", .free "repr", .int "MOST_FIGURES_readers" 40, .int "MOST_NAME" 8, .int "MOST_TEXT" 80, .int "MOST_FIGURES_commands" 6, .int "MOST_COUNT" 2, .str "FIGURES_readers" "0123456789", .str "SIGNS_readers" "+-", .str "COLON" ":", .str "FIGURES_commands" "0123456789", .str "LETTERS" "abcdefghijklmnopqrstuvwxyz", .str "SIGNS_commands" "abcdefghijklmnopqrstuvwxyz0123456789", .str "LABEL" "label", .str "PLANE_TEXT" "plane text", .str "LINE_TEXT" "line text", .str "CHANGE_TEXT" "change text"]
def d_OF_LINE : PyData := (PyData.tuple [(PyData.str "t"), (PyData.int 12), (PyData.int 12), (PyData.int 1)])
def d_OF_PLANE : PyData := (PyData.tuple [(PyData.str "xy"), (PyData.int 8), (PyData.int 16), (PyData.int 1)])
def d_OF_CURVE : PyData := (PyData.tuple [(PyData.str "t"), (PyData.int 5), (PyData.int 5), (PyData.int 3)])
def d_OF_CHANGE : PyData := (PyData.tuple [(PyData.str "xy"), (PyData.int 1), (PyData.int 1), (PyData.int 2)])
def d_NAMES : PyData := (PyData.tuple [(PyData.str "plane"), (PyData.str "line"), (PyData.str "curve"), (PyData.str "change"), (PyData.str "new"), (PyData.str "label"), (PyData.str "any"), (PyData.str "other")])
def t_CLAIMS : TabD := [("pieces", (PyData.tuple [(PyData.str "plane"), (PyData.str "count")])), ("otherwise", (PyData.tuple [(PyData.str "plane"), (PyData.str "count")])), ("clean", (PyData.tuple [(PyData.str "plane")])), ("double", (PyData.tuple [(PyData.str "plane")])), ("within", (PyData.tuple [(PyData.str "plane"), (PyData.str "plane")])), ("outside", (PyData.tuple [(PyData.str "plane"), (PyData.str "plane")])), ("whole", (PyData.tuple [(PyData.str "plane")])), ("splits", (PyData.tuple [(PyData.str "plane")])), ("degrees", (PyData.tuple [(PyData.str "curve"), (PyData.str "count")])), ("unlike", (PyData.tuple [(PyData.str "curve"), (PyData.str "count")])), ("along", (PyData.tuple [(PyData.str "curve"), (PyData.str "plane"), (PyData.str "count")])), ("aside", (PyData.tuple [(PyData.str "curve"), (PyData.str "plane"), (PyData.str "count")]))]
def t_DEEDS : TabD := [("plane", (PyData.tuple [(PyData.str "new"), (PyData.str "plane text")])), ("line", (PyData.tuple [(PyData.str "new"), (PyData.str "line text")])), ("curve", (PyData.tuple [(PyData.str "new"), (PyData.str "curve text")])), ("change", (PyData.tuple [(PyData.str "new"), (PyData.str "change text")])), ("sum", (PyData.tuple [(PyData.str "new"), (PyData.str "plane"), (PyData.str "plane")])), ("less", (PyData.tuple [(PyData.str "new"), (PyData.str "plane"), (PyData.str "plane")])), ("times", (PyData.tuple [(PyData.str "new"), (PyData.str "plane"), (PyData.str "plane")])), ("common", (PyData.tuple [(PyData.str "new"), (PyData.str "plane"), (PyData.str "plane")])), ("over", (PyData.tuple [(PyData.str "new"), (PyData.str "plane"), (PyData.str "plane")])), ("plain", (PyData.tuple [(PyData.str "new"), (PyData.str "plane")])), ("swap", (PyData.tuple [(PyData.str "new"), (PyData.str "plane")])), ("slope", (PyData.tuple [(PyData.str "new"), (PyData.str "plane")])), ("led", (PyData.tuple [(PyData.str "new"), (PyData.str "plane"), (PyData.str "change")])), ("row", (PyData.tuple [(PyData.str "new"), (PyData.str "plane"), (PyData.str "number")])), ("parting", (PyData.tuple [(PyData.str "new"), (PyData.str "plane")])), ("drawn", (PyData.tuple [(PyData.str "new"), (PyData.str "curve"), (PyData.str "line")])), ("equation", (PyData.tuple [(PyData.str "new"), (PyData.str "curve")])), ("turn", (PyData.tuple [(PyData.str "plane"), (PyData.str "change")])), ("mult", (PyData.tuple [(PyData.str "plane"), (PyData.str "plane")])), ("lead", (PyData.tuple [(PyData.str "curve"), (PyData.str "line")])), ("drop", (PyData.tuple [(PyData.str "any")])), ("claim", (PyData.tuple [(PyData.str "label")])), ("forget", (PyData.tuple [(PyData.str "label")]))]
def t_QUESTIONS : TabD := [("undo", (PyData.tuple [])), ("redo", (PyData.tuple [])), ("state", (PyData.tuple [(PyData.str "label")])), ("states", (PyData.tuple [])), ("claimed", (PyData.tuple [(PyData.str "label")])), ("names", (PyData.tuple [])), ("show", (PyData.tuple [(PyData.str "any")])), ("pieces", (PyData.tuple [(PyData.str "plane")])), ("bound", (PyData.tuple [(PyData.str "plane")])), ("count", (PyData.tuple [(PyData.str "plane"), (PyData.str "number")])), ("value", (PyData.tuple [(PyData.str "plane"), (PyData.str "number"), (PyData.str "number")])), ("parts", (PyData.tuple [(PyData.str "plane")])), ("clean", (PyData.tuple [(PyData.str "plane")])), ("whole", (PyData.tuple [(PyData.str "plane")])), ("good", (PyData.tuple [(PyData.str "plane"), (PyData.str "number")])), ("at", (PyData.tuple [(PyData.str "curve"), (PyData.str "number")])), ("lesser", (PyData.tuple [(PyData.str "curve")])), ("passes", (PyData.tuple [(PyData.str "curve")])), ("same", (PyData.tuple [(PyData.str "any"), (PyData.str "other")]))]
def ts : List He.Tab := [(fun K => He.ga K "CLAIMS", t_CLAIMS.map (·.1)), (fun K => He.ga K "DEEDS", t_DEEDS.map (·.1)), (fun K => He.ga K "QUESTIONS", t_QUESTIONS.map (·.1))]
def qs : Qs := [gdB "OF_LINE" d_OF_LINE, gdB "OF_PLANE" d_OF_PLANE, gdB "OF_CURVE" d_OF_CURVE, gdB "OF_CHANGE" d_OF_CHANGE, gdB "NAMES" d_NAMES, tabB "CLAIMS" t_CLAIMS, tabB "DEEDS" t_DEEDS, tabB "QUESTIONS" t_QUESTIONS]
structure Fc (w : World) (K : PySem.W.Frag) (mg : Str → Option Value) : Prop where
  run : ∃ h : Heap, K.In h ∧ h.Ns mainGlobals mg ∧ SaysU fa fn ts qs w K
section
variable {P : Program} {w : World} {K : PySem.W.Frag} {mg : Str → Option Value} {base : Heap} {xt : Nat → Addr × Str}
theorem gg_trimmed (q : Fc w K mg) : mg "trimmed" = some (.ref (He.ga K "trimmed")) := let ⟨_, X, G, c⟩ := q.run; He.glo_ok X G (c.d.fact 0 (f := .glo "trimmed") rfl)
theorem gg_trimmed_plane (q : Fc w K mg) : mg "trimmed_plane" = some (.ref (He.ga K "trimmed_plane")) := let ⟨_, X, G, c⟩ := q.run; He.glo_ok X G (c.d.fact 1 (f := .glo "trimmed_plane") rfl)
theorem gg_behind_blanks (q : Fc w K mg) : mg "behind_blanks" = some (.ref (He.ga K "behind_blanks")) := let ⟨_, X, G, c⟩ := q.run; He.glo_ok X G (c.d.fact 2 (f := .glo "behind_blanks") rfl)
theorem gg_behind_numeral (q : Fc w K mg) : mg "behind_numeral" = some (.ref (He.ga K "behind_numeral")) := let ⟨_, X, G, c⟩ := q.run; He.glo_ok X G (c.d.fact 3 (f := .glo "behind_numeral") rfl)
theorem gg_read_letters (q : Fc w K mg) : mg "read_letters" = some (.ref (He.ga K "read_letters")) := let ⟨_, X, G, c⟩ := q.run; He.glo_ok X G (c.d.fact 4 (f := .glo "read_letters") rfl)
theorem gg_read_term (q : Fc w K mg) : mg "read_term" = some (.ref (He.ga K "read_term")) := let ⟨_, X, G, c⟩ := q.run; He.glo_ok X G (c.d.fact 5 (f := .glo "read_term") rfl)
theorem gg_read_sum (q : Fc w K mg) : mg "read_sum" = some (.ref (He.ga K "read_sum")) := let ⟨_, X, G, c⟩ := q.run; He.glo_ok X G (c.d.fact 6 (f := .glo "read_sum") rfl)
theorem gg_read_sums (q : Fc w K mg) : mg "read_sums" = some (.ref (He.ga K "read_sums")) := let ⟨_, X, G, c⟩ := q.run; He.glo_ok X G (c.d.fact 7 (f := .glo "read_sums") rfl)
theorem gg_line_by (q : Fc w K mg) : mg "line_by" = some (.ref (He.ga K "line_by")) := let ⟨_, X, G, c⟩ := q.run; He.glo_ok X G (c.d.fact 8 (f := .glo "line_by") rfl)
theorem gg_plane_by (q : Fc w K mg) : mg "plane_by" = some (.ref (He.ga K "plane_by")) := let ⟨_, X, G, c⟩ := q.run; He.glo_ok X G (c.d.fact 9 (f := .glo "plane_by") rfl)
theorem gg_straight_numbers (q : Fc w K mg) : mg "straight_numbers" = some (.ref (He.ga K "straight_numbers")) := let ⟨_, X, G, c⟩ := q.run; He.glo_ok X G (c.d.fact 10 (f := .glo "straight_numbers") rfl)
theorem gg_told_by (q : Fc w K mg) : mg "told_by" = some (.ref (He.ga K "told_by")) := let ⟨_, X, G, c⟩ := q.run; He.glo_ok X G (c.d.fact 11 (f := .glo "told_by") rfl)
theorem gg_told_line (q : Fc w K mg) : mg "told_line" = some (.ref (He.ga K "told_line")) := let ⟨_, X, G, c⟩ := q.run; He.glo_ok X G (c.d.fact 12 (f := .glo "told_line") rfl)
theorem gg_told_plane (q : Fc w K mg) : mg "told_plane" = some (.ref (He.ga K "told_plane")) := let ⟨_, X, G, c⟩ := q.run; He.glo_ok X G (c.d.fact 13 (f := .glo "told_plane") rfl)
theorem gg_told_lines (q : Fc w K mg) : mg "told_lines" = some (.ref (He.ga K "told_lines")) := let ⟨_, X, G, c⟩ := q.run; He.glo_ok X G (c.d.fact 14 (f := .glo "told_lines") rfl)
theorem gg_told_numbers (q : Fc w K mg) : mg "told_numbers" = some (.ref (He.ga K "told_numbers")) := let ⟨_, X, G, c⟩ := q.run; He.glo_ok X G (c.d.fact 15 (f := .glo "told_numbers") rfl)
theorem gg_is_name (q : Fc w K mg) : mg "is_name" = some (.ref (He.ga K "is_name")) := let ⟨_, X, G, c⟩ := q.run; He.glo_ok X G (c.d.fact 16 (f := .glo "is_name") rfl)
theorem gg_figures_in (q : Fc w K mg) : mg "figures_in" = some (.ref (He.ga K "figures_in")) := let ⟨_, X, G, c⟩ := q.run; He.glo_ok X G (c.d.fact 17 (f := .glo "figures_in") rfl)
theorem gg_count_in (q : Fc w K mg) : mg "count_in" = some (.ref (He.ga K "count_in")) := let ⟨_, X, G, c⟩ := q.run; He.glo_ok X G (c.d.fact 18 (f := .glo "count_in") rfl)
theorem gg_short_number (q : Fc w K mg) : mg "short_number" = some (.ref (He.ga K "short_number")) := let ⟨_, X, G, c⟩ := q.run; He.glo_ok X G (c.d.fact 19 (f := .glo "short_number") rfl)
theorem gg_has_long_numeral (q : Fc w K mg) : mg "has_long_numeral" = some (.ref (He.ga K "has_long_numeral")) := let ⟨_, X, G, c⟩ := q.run; He.glo_ok X G (c.d.fact 20 (f := .glo "has_long_numeral") rfl)
theorem gg_text_in (q : Fc w K mg) : mg "text_in" = some (.ref (He.ga K "text_in")) := let ⟨_, X, G, c⟩ := q.run; He.glo_ok X G (c.d.fact 21 (f := .glo "text_in") rfl)
theorem gg_told_of_kind (q : Fc w K mg) : mg "told_of_kind" = some (.ref (He.ga K "told_of_kind")) := let ⟨_, X, G, c⟩ := q.run; He.glo_ok X G (c.d.fact 22 (f := .glo "told_of_kind") rfl)
theorem gg_kinds_of (q : Fc w K mg) : mg "kinds_of" = some (.ref (He.ga K "kinds_of")) := let ⟨_, X, G, c⟩ := q.run; He.glo_ok X G (c.d.fact 23 (f := .glo "kinds_of") rfl)
theorem gg_command_parts (q : Fc w K mg) : mg "command_parts" = some (.ref (He.ga K "command_parts")) := let ⟨_, X, G, c⟩ := q.run; He.glo_ok X G (c.d.fact 24 (f := .glo "command_parts") rfl)
theorem gg_is_command (q : Fc w K mg) : mg "is_command" = some (.ref (He.ga K "is_command")) := let ⟨_, X, G, c⟩ := q.run; He.glo_ok X G (c.d.fact 25 (f := .glo "is_command") rfl)
theorem gg_is_deed (q : Fc w K mg) : mg "is_deed" = some (.ref (He.ga K "is_deed")) := let ⟨_, X, G, c⟩ := q.run; He.glo_ok X G (c.d.fact 26 (f := .glo "is_deed") rfl)
theorem gg__law_pot (q : Fc w K mg) : mg "_law_pot" = some (.ref (He.ga K "_law_pot")) := let ⟨_, X, G, c⟩ := q.run; He.glo_ok X G (c.d.fact 27 (f := .glo "_law_pot") rfl)
theorem gg__law_draw (q : Fc w K mg) : mg "_law_draw" = some (.ref (He.ga K "_law_draw")) := let ⟨_, X, G, c⟩ := q.run; He.glo_ok X G (c.d.fact 28 (f := .glo "_law_draw") rfl)
theorem gg__law_pick (q : Fc w K mg) : mg "_law_pick" = some (.ref (He.ga K "_law_pick")) := let ⟨_, X, G, c⟩ := q.run; He.glo_ok X G (c.d.fact 29 (f := .glo "_law_pick") rfl)
theorem gg__law_texts (q : Fc w K mg) : mg "_law_texts" = some (.ref (He.ga K "_law_texts")) := let ⟨_, X, G, c⟩ := q.run; He.glo_ok X G (c.d.fact 30 (f := .glo "_law_texts") rfl)
theorem gg__law_deeds (q : Fc w K mg) : mg "_law_deeds" = some (.ref (He.ga K "_law_deeds")) := let ⟨_, X, G, c⟩ := q.run; He.glo_ok X G (c.d.fact 31 (f := .glo "_law_deeds") rfl)
theorem gg__law_asks (q : Fc w K mg) : mg "_law_asks" = some (.ref (He.ga K "_law_asks")) := let ⟨_, X, G, c⟩ := q.run; He.glo_ok X G (c.d.fact 32 (f := .glo "_law_asks") rfl)
theorem gg__law_claims (q : Fc w K mg) : mg "_law_claims" = some (.ref (He.ga K "_law_claims")) := let ⟨_, X, G, c⟩ := q.run; He.glo_ok X G (c.d.fact 33 (f := .glo "_law_claims") rfl)
theorem gg__law_is_name (q : Fc w K mg) : mg "_law_is_name" = some (.ref (He.ga K "_law_is_name")) := let ⟨_, X, G, c⟩ := q.run; He.glo_ok X G (c.d.fact 34 (f := .glo "_law_is_name") rfl)
theorem gg__law_is_count (q : Fc w K mg) : mg "_law_is_count" = some (.ref (He.ga K "_law_is_count")) := let ⟨_, X, G, c⟩ := q.run; He.glo_ok X G (c.d.fact 35 (f := .glo "_law_is_count") rfl)
theorem gg__law_fits (q : Fc w K mg) : mg "_law_fits" = some (.ref (He.ga K "_law_fits")) := let ⟨_, X, G, c⟩ := q.run; He.glo_ok X G (c.d.fact 36 (f := .glo "_law_fits") rfl)
theorem gg__law_due (q : Fc w K mg) : mg "_law_due" = some (.ref (He.ga K "_law_due")) := let ⟨_, X, G, c⟩ := q.run; He.glo_ok X G (c.d.fact 37 (f := .glo "_law_due") rfl)
theorem gg__law_part (q : Fc w K mg) : mg "_law_part" = some (.ref (He.ga K "_law_part")) := let ⟨_, X, G, c⟩ := q.run; He.glo_ok X G (c.d.fact 38 (f := .glo "_law_part") rfl)
theorem gg__law_string (q : Fc w K mg) : mg "_law_string" = some (.ref (He.ga K "_law_string")) := let ⟨_, X, G, c⟩ := q.run; He.glo_ok X G (c.d.fact 39 (f := .glo "_law_string") rfl)
theorem gg_law (q : Fc w K mg) : mg "law" = some (.ref (He.ga K "law")) := let ⟨_, X, G, c⟩ := q.run; He.glo_ok X G (c.d.fact 40 (f := .glo "law") rfl)
theorem gf_len (q : Fc w K mg) : mg "len" = none := let ⟨_, X, G, c⟩ := q.run; He.free_ok X G (c.d.fact 41 (f := .free "len") rfl)
theorem gf_list (q : Fc w K mg) : mg "list" = none := let ⟨_, X, G, c⟩ := q.run; He.free_ok X G (c.d.fact 42 (f := .free "list") rfl)
theorem gf_sum (q : Fc w K mg) : mg "sum" = none := let ⟨_, X, G, c⟩ := q.run; He.free_ok X G (c.d.fact 43 (f := .free "sum") rfl)
theorem gf_int (q : Fc w K mg) : mg "int" = none := let ⟨_, X, G, c⟩ := q.run; He.free_ok X G (c.d.fact 44 (f := .free "int") rfl)
theorem gf_max (q : Fc w K mg) : mg "max" = none := let ⟨_, X, G, c⟩ := q.run; He.free_ok X G (c.d.fact 45 (f := .free "max") rfl)
theorem gf_abs (q : Fc w K mg) : mg "abs" = none := let ⟨_, X, G, c⟩ := q.run; He.free_ok X G (c.d.fact 46 (f := .free "abs") rfl)
theorem gf_range (q : Fc w K mg) : mg "range" = none := let ⟨_, X, G, c⟩ := q.run; He.free_ok X G (c.d.fact 47 (f := .free "range") rfl)
theorem gf_zip (q : Fc w K mg) : mg "zip" = none := let ⟨_, X, G, c⟩ := q.run; He.free_ok X G (c.d.fact 48 (f := .free "zip") rfl)
theorem gf_isinstance (q : Fc w K mg) : mg "isinstance" = none := let ⟨_, X, G, c⟩ := q.run; He.free_ok X G (c.d.fact 49 (f := .free "isinstance") rfl)
theorem gf_str (q : Fc w K mg) : mg "str" = none := let ⟨_, X, G, c⟩ := q.run; He.free_ok X G (c.d.fact 50 (f := .free "str") rfl)
theorem gf_any (q : Fc w K mg) : mg "any" = none := let ⟨_, X, G, c⟩ := q.run; He.free_ok X G (c.d.fact 51 (f := .free "any") rfl)
theorem gf_all (q : Fc w K mg) : mg "all" = none := let ⟨_, X, G, c⟩ := q.run; He.free_ok X G (c.d.fact 52 (f := .free "all") rfl)
theorem gf_divmod (q : Fc w K mg) : mg "divmod" = none := let ⟨_, X, G, c⟩ := q.run; He.free_ok X G (c.d.fact 53 (f := .free "divmod") rfl)
theorem gf_sorted (q : Fc w K mg) : mg "sorted" = none := let ⟨_, X, G, c⟩ := q.run; He.free_ok X G (c.d.fact 54 (f := .free "sorted") rfl)
theorem gf_repr (q : Fc w K mg) : mg "repr" = none := let ⟨_, X, G, c⟩ := q.run; He.free_ok X G (c.d.fact 55 (f := .free "repr") rfl)
theorem gi_MOST_FIGURES_readers (q : Fc w K mg) : ∃ t, mg "MOST_FIGURES_readers" = some (.int 40 t) := let ⟨_, X, G, c⟩ := q.run; He.int_ok X G (c.d.fact 56 (f := .int "MOST_FIGURES_readers" 40) rfl)
theorem gi_MOST_NAME (q : Fc w K mg) : ∃ t, mg "MOST_NAME" = some (.int 8 t) := let ⟨_, X, G, c⟩ := q.run; He.int_ok X G (c.d.fact 57 (f := .int "MOST_NAME" 8) rfl)
theorem gi_MOST_TEXT (q : Fc w K mg) : ∃ t, mg "MOST_TEXT" = some (.int 80 t) := let ⟨_, X, G, c⟩ := q.run; He.int_ok X G (c.d.fact 58 (f := .int "MOST_TEXT" 80) rfl)
theorem gi_MOST_FIGURES_commands (q : Fc w K mg) : ∃ t, mg "MOST_FIGURES_commands" = some (.int 6 t) := let ⟨_, X, G, c⟩ := q.run; He.int_ok X G (c.d.fact 59 (f := .int "MOST_FIGURES_commands" 6) rfl)
theorem gi_MOST_COUNT (q : Fc w K mg) : ∃ t, mg "MOST_COUNT" = some (.int 2 t) := let ⟨_, X, G, c⟩ := q.run; He.int_ok X G (c.d.fact 60 (f := .int "MOST_COUNT" 2) rfl)
theorem gs_FIGURES_readers (q : Fc w K mg) : ∃ t, mg "FIGURES_readers" = some (.str "0123456789" t) := let ⟨_, X, G, c⟩ := q.run; He.str_ok X G (c.d.fact 61 (f := .str "FIGURES_readers" "0123456789") rfl)
theorem gs_SIGNS_readers (q : Fc w K mg) : ∃ t, mg "SIGNS_readers" = some (.str "+-" t) := let ⟨_, X, G, c⟩ := q.run; He.str_ok X G (c.d.fact 62 (f := .str "SIGNS_readers" "+-") rfl)
theorem gs_COLON (q : Fc w K mg) : ∃ t, mg "COLON" = some (.str ":" t) := let ⟨_, X, G, c⟩ := q.run; He.str_ok X G (c.d.fact 63 (f := .str "COLON" ":") rfl)
theorem gs_FIGURES_commands (q : Fc w K mg) : ∃ t, mg "FIGURES_commands" = some (.str "0123456789" t) := let ⟨_, X, G, c⟩ := q.run; He.str_ok X G (c.d.fact 64 (f := .str "FIGURES_commands" "0123456789") rfl)
theorem gs_LETTERS (q : Fc w K mg) : ∃ t, mg "LETTERS" = some (.str "abcdefghijklmnopqrstuvwxyz" t) := let ⟨_, X, G, c⟩ := q.run; He.str_ok X G (c.d.fact 65 (f := .str "LETTERS" "abcdefghijklmnopqrstuvwxyz") rfl)
theorem gs_SIGNS_commands (q : Fc w K mg) : ∃ t, mg "SIGNS_commands" = some (.str "abcdefghijklmnopqrstuvwxyz0123456789" t) := let ⟨_, X, G, c⟩ := q.run; He.str_ok X G (c.d.fact 66 (f := .str "SIGNS_commands" "abcdefghijklmnopqrstuvwxyz0123456789") rfl)
theorem gs_LABEL (q : Fc w K mg) : ∃ t, mg "LABEL" = some (.str "label" t) := let ⟨_, X, G, c⟩ := q.run; He.str_ok X G (c.d.fact 67 (f := .str "LABEL" "label") rfl)
theorem gs_PLANE_TEXT (q : Fc w K mg) : ∃ t, mg "PLANE_TEXT" = some (.str "plane text" t) := let ⟨_, X, G, c⟩ := q.run; He.str_ok X G (c.d.fact 68 (f := .str "PLANE_TEXT" "plane text") rfl)
theorem gs_LINE_TEXT (q : Fc w K mg) : ∃ t, mg "LINE_TEXT" = some (.str "line text" t) := let ⟨_, X, G, c⟩ := q.run; He.str_ok X G (c.d.fact 69 (f := .str "LINE_TEXT" "line text") rfl)
theorem gs_CHANGE_TEXT (q : Fc w K mg) : ∃ t, mg "CHANGE_TEXT" = some (.str "change text" t) := let ⟨_, X, G, c⟩ := q.run; He.str_ok X G (c.d.fact 70 (f := .str "CHANGE_TEXT" "change text") rfl)
theorem gd_OF_LINE (q : Fc w K mg) : GD K mg "OF_LINE" d_OF_LINE := let ⟨_, X, G, c⟩ := q.run; gd_ok X G (c.q 0 (q := gdB "OF_LINE" d_OF_LINE) rfl)
theorem gd_OF_PLANE (q : Fc w K mg) : GD K mg "OF_PLANE" d_OF_PLANE := let ⟨_, X, G, c⟩ := q.run; gd_ok X G (c.q 1 (q := gdB "OF_PLANE" d_OF_PLANE) rfl)
theorem gd_OF_CURVE (q : Fc w K mg) : GD K mg "OF_CURVE" d_OF_CURVE := let ⟨_, X, G, c⟩ := q.run; gd_ok X G (c.q 2 (q := gdB "OF_CURVE" d_OF_CURVE) rfl)
theorem gd_OF_CHANGE (q : Fc w K mg) : GD K mg "OF_CHANGE" d_OF_CHANGE := let ⟨_, X, G, c⟩ := q.run; gd_ok X G (c.q 3 (q := gdB "OF_CHANGE" d_OF_CHANGE) rfl)
theorem gd_NAMES (q : Fc w K mg) : GD K mg "NAMES" d_NAMES := let ⟨_, X, G, c⟩ := q.run; gd_ok X G (c.q 4 (q := gdB "NAMES" d_NAMES) rfl)
theorem kt_CLAIMS (q : Fc w K mg) : KT K w mg "CLAIMS" t_CLAIMS := let ⟨_, X, G, c⟩ := q.run; kt_ok X G (c.q 5 (q := tabB "CLAIMS" t_CLAIMS) rfl) (c.tab 0 rfl)
theorem kt_DEEDS (q : Fc w K mg) : KT K w mg "DEEDS" t_DEEDS := let ⟨_, X, G, c⟩ := q.run; kt_ok X G (c.q 6 (q := tabB "DEEDS" t_DEEDS) rfl) (c.tab 1 rfl)
theorem kt_QUESTIONS (q : Fc w K mg) : KT K w mg "QUESTIONS" t_QUESTIONS := let ⟨_, X, G, c⟩ := q.run; kt_ok X G (c.q 7 (q := tabB "QUESTIONS" t_QUESTIONS) rfl) (c.tab 2 rfl)
/-- a def's promise, with all that a caller needs -/
structure Pm (P : Program) (w : World) (K : PySem.W.Frag) (mg : Str → Option Value) (base : Heap) (xt : Nat → Addr × Str) (k : Nat) (x : Str) (st : Stmt) (ps : List Str) (df : Df) (g : List PyData → Out PyData) : Prop where
  run : ∃ fd, FunD K x x (defArgs st) (defBody st) (defScope st) [] [] (He.ga K x) fd ∧ Binds K fd ps [] ∧ mg x = some (.ref (He.ga K x)) ∧ FnD P w K mg base xt k (He.ga K x) fd ps df g
theorem fd_trimmed (q : Fc w K mg) : ∃ fd, FunD K "trimmed" "trimmed" (defArgs s_trimmed) (defBody s_trimmed) (defScope s_trimmed) [] [] (He.ga K "trimmed") fd := let ⟨_, X, G, c⟩ := q.run; c.d.def_ 0 (d := D_trimmed) rfl
theorem fd_trimmed_plane (q : Fc w K mg) : ∃ fd, FunD K "trimmed_plane" "trimmed_plane" (defArgs s_trimmed_plane) (defBody s_trimmed_plane) (defScope s_trimmed_plane) [] [] (He.ga K "trimmed_plane") fd := let ⟨_, X, G, c⟩ := q.run; c.d.def_ 1 (d := D_trimmed_plane) rfl
theorem fd_behind_blanks (q : Fc w K mg) : ∃ fd, FunD K "behind_blanks" "behind_blanks" (defArgs s_behind_blanks) (defBody s_behind_blanks) (defScope s_behind_blanks) [] [] (He.ga K "behind_blanks") fd := let ⟨_, X, G, c⟩ := q.run; c.d.def_ 2 (d := D_behind_blanks) rfl
theorem fd_behind_numeral (q : Fc w K mg) : ∃ fd, FunD K "behind_numeral" "behind_numeral" (defArgs s_behind_numeral) (defBody s_behind_numeral) (defScope s_behind_numeral) [] [] (He.ga K "behind_numeral") fd := let ⟨_, X, G, c⟩ := q.run; c.d.def_ 3 (d := D_behind_numeral) rfl
theorem fd_read_letters (q : Fc w K mg) : ∃ fd, FunD K "read_letters" "read_letters" (defArgs s_read_letters) (defBody s_read_letters) (defScope s_read_letters) [] [] (He.ga K "read_letters") fd := let ⟨_, X, G, c⟩ := q.run; c.d.def_ 4 (d := D_read_letters) rfl
theorem fd_read_term (q : Fc w K mg) : ∃ fd, FunD K "read_term" "read_term" (defArgs s_read_term) (defBody s_read_term) (defScope s_read_term) [] [] (He.ga K "read_term") fd := let ⟨_, X, G, c⟩ := q.run; c.d.def_ 5 (d := D_read_term) rfl
theorem fd_read_sum (q : Fc w K mg) : ∃ fd, FunD K "read_sum" "read_sum" (defArgs s_read_sum) (defBody s_read_sum) (defScope s_read_sum) [] [] (He.ga K "read_sum") fd := let ⟨_, X, G, c⟩ := q.run; c.d.def_ 6 (d := D_read_sum) rfl
theorem fd_read_sums (q : Fc w K mg) : ∃ fd, FunD K "read_sums" "read_sums" (defArgs s_read_sums) (defBody s_read_sums) (defScope s_read_sums) [] [] (He.ga K "read_sums") fd := let ⟨_, X, G, c⟩ := q.run; c.d.def_ 7 (d := D_read_sums) rfl
theorem fd_line_by (q : Fc w K mg) : ∃ fd, FunD K "line_by" "line_by" (defArgs s_line_by) (defBody s_line_by) (defScope s_line_by) [] [] (He.ga K "line_by") fd := let ⟨_, X, G, c⟩ := q.run; c.d.def_ 8 (d := D_line_by) rfl
theorem fd_plane_by (q : Fc w K mg) : ∃ fd, FunD K "plane_by" "plane_by" (defArgs s_plane_by) (defBody s_plane_by) (defScope s_plane_by) [] [] (He.ga K "plane_by") fd := let ⟨_, X, G, c⟩ := q.run; c.d.def_ 9 (d := D_plane_by) rfl
theorem fd_straight_numbers (q : Fc w K mg) : ∃ fd, FunD K "straight_numbers" "straight_numbers" (defArgs s_straight_numbers) (defBody s_straight_numbers) (defScope s_straight_numbers) [] [] (He.ga K "straight_numbers") fd := let ⟨_, X, G, c⟩ := q.run; c.d.def_ 10 (d := D_straight_numbers) rfl
theorem fd_told_by (q : Fc w K mg) : ∃ fd, FunD K "told_by" "told_by" (defArgs s_told_by) (defBody s_told_by) (defScope s_told_by) [] [] (He.ga K "told_by") fd := let ⟨_, X, G, c⟩ := q.run; c.d.def_ 11 (d := D_told_by) rfl
theorem fd_told_line (q : Fc w K mg) : ∃ fd, FunD K "told_line" "told_line" (defArgs s_told_line) (defBody s_told_line) (defScope s_told_line) [] [] (He.ga K "told_line") fd := let ⟨_, X, G, c⟩ := q.run; c.d.def_ 12 (d := D_told_line) rfl
theorem fd_told_plane (q : Fc w K mg) : ∃ fd, FunD K "told_plane" "told_plane" (defArgs s_told_plane) (defBody s_told_plane) (defScope s_told_plane) [] [] (He.ga K "told_plane") fd := let ⟨_, X, G, c⟩ := q.run; c.d.def_ 13 (d := D_told_plane) rfl
theorem fd_told_lines (q : Fc w K mg) : ∃ fd, FunD K "told_lines" "told_lines" (defArgs s_told_lines) (defBody s_told_lines) (defScope s_told_lines) [] [] (He.ga K "told_lines") fd := let ⟨_, X, G, c⟩ := q.run; c.d.def_ 14 (d := D_told_lines) rfl
theorem fd_told_numbers (q : Fc w K mg) : ∃ fd, FunD K "told_numbers" "told_numbers" (defArgs s_told_numbers) (defBody s_told_numbers) (defScope s_told_numbers) [] [] (He.ga K "told_numbers") fd := let ⟨_, X, G, c⟩ := q.run; c.d.def_ 15 (d := D_told_numbers) rfl
theorem fd_is_name (q : Fc w K mg) : ∃ fd, FunD K "is_name" "is_name" (defArgs s_is_name) (defBody s_is_name) (defScope s_is_name) [] [] (He.ga K "is_name") fd := let ⟨_, X, G, c⟩ := q.run; c.d.def_ 16 (d := D_is_name) rfl
theorem fd_figures_in (q : Fc w K mg) : ∃ fd, FunD K "figures_in" "figures_in" (defArgs s_figures_in) (defBody s_figures_in) (defScope s_figures_in) [] [] (He.ga K "figures_in") fd := let ⟨_, X, G, c⟩ := q.run; c.d.def_ 17 (d := D_figures_in) rfl
theorem fd_count_in (q : Fc w K mg) : ∃ fd, FunD K "count_in" "count_in" (defArgs s_count_in) (defBody s_count_in) (defScope s_count_in) [] [] (He.ga K "count_in") fd := let ⟨_, X, G, c⟩ := q.run; c.d.def_ 18 (d := D_count_in) rfl
theorem fd_short_number (q : Fc w K mg) : ∃ fd, FunD K "short_number" "short_number" (defArgs s_short_number) (defBody s_short_number) (defScope s_short_number) [] [] (He.ga K "short_number") fd := let ⟨_, X, G, c⟩ := q.run; c.d.def_ 19 (d := D_short_number) rfl
theorem fd_has_long_numeral (q : Fc w K mg) : ∃ fd, FunD K "has_long_numeral" "has_long_numeral" (defArgs s_has_long_numeral) (defBody s_has_long_numeral) (defScope s_has_long_numeral) [] [] (He.ga K "has_long_numeral") fd := let ⟨_, X, G, c⟩ := q.run; c.d.def_ 20 (d := D_has_long_numeral) rfl
theorem fd_text_in (q : Fc w K mg) : ∃ fd, FunD K "text_in" "text_in" (defArgs s_text_in) (defBody s_text_in) (defScope s_text_in) [] [] (He.ga K "text_in") fd := let ⟨_, X, G, c⟩ := q.run; c.d.def_ 21 (d := D_text_in) rfl
theorem fd_told_of_kind (q : Fc w K mg) : ∃ fd, FunD K "told_of_kind" "told_of_kind" (defArgs s_told_of_kind) (defBody s_told_of_kind) (defScope s_told_of_kind) [] [] (He.ga K "told_of_kind") fd := let ⟨_, X, G, c⟩ := q.run; c.d.def_ 22 (d := D_told_of_kind) rfl
theorem fd_kinds_of (q : Fc w K mg) : ∃ fd, FunD K "kinds_of" "kinds_of" (defArgs s_kinds_of) (defBody s_kinds_of) (defScope s_kinds_of) [] [] (He.ga K "kinds_of") fd := let ⟨_, X, G, c⟩ := q.run; c.d.def_ 23 (d := D_kinds_of) rfl
theorem fd_command_parts (q : Fc w K mg) : ∃ fd, FunD K "command_parts" "command_parts" (defArgs s_command_parts) (defBody s_command_parts) (defScope s_command_parts) [] [] (He.ga K "command_parts") fd := let ⟨_, X, G, c⟩ := q.run; c.d.def_ 24 (d := D_command_parts) rfl
theorem fd_is_command (q : Fc w K mg) : ∃ fd, FunD K "is_command" "is_command" (defArgs s_is_command) (defBody s_is_command) (defScope s_is_command) [] [] (He.ga K "is_command") fd := let ⟨_, X, G, c⟩ := q.run; c.d.def_ 25 (d := D_is_command) rfl
theorem fd_is_deed (q : Fc w K mg) : ∃ fd, FunD K "is_deed" "is_deed" (defArgs s_is_deed) (defBody s_is_deed) (defScope s_is_deed) [] [] (He.ga K "is_deed") fd := let ⟨_, X, G, c⟩ := q.run; c.d.def_ 26 (d := D_is_deed) rfl
theorem fd__law_pot (q : Fc w K mg) : ∃ fd, FunD K "_law_pot" "_law_pot" (defArgs s__law_pot) (defBody s__law_pot) (defScope s__law_pot) [] [] (He.ga K "_law_pot") fd := let ⟨_, X, G, c⟩ := q.run; c.d.def_ 27 (d := D__law_pot) rfl
theorem fd__law_draw (q : Fc w K mg) : ∃ fd, FunD K "_law_draw" "_law_draw" (defArgs s__law_draw) (defBody s__law_draw) (defScope s__law_draw) [] [] (He.ga K "_law_draw") fd := let ⟨_, X, G, c⟩ := q.run; c.d.def_ 28 (d := D__law_draw) rfl
theorem fd__law_pick (q : Fc w K mg) : ∃ fd, FunD K "_law_pick" "_law_pick" (defArgs s__law_pick) (defBody s__law_pick) (defScope s__law_pick) [] [] (He.ga K "_law_pick") fd := let ⟨_, X, G, c⟩ := q.run; c.d.def_ 29 (d := D__law_pick) rfl
theorem fd__law_texts (q : Fc w K mg) : ∃ fd, FunD K "_law_texts" "_law_texts" (defArgs s__law_texts) (defBody s__law_texts) (defScope s__law_texts) [] [] (He.ga K "_law_texts") fd := let ⟨_, X, G, c⟩ := q.run; c.d.def_ 30 (d := D__law_texts) rfl
theorem fd__law_deeds (q : Fc w K mg) : ∃ fd, FunD K "_law_deeds" "_law_deeds" (defArgs s__law_deeds) (defBody s__law_deeds) (defScope s__law_deeds) [] [] (He.ga K "_law_deeds") fd := let ⟨_, X, G, c⟩ := q.run; c.d.def_ 31 (d := D__law_deeds) rfl
theorem fd__law_asks (q : Fc w K mg) : ∃ fd, FunD K "_law_asks" "_law_asks" (defArgs s__law_asks) (defBody s__law_asks) (defScope s__law_asks) [] [] (He.ga K "_law_asks") fd := let ⟨_, X, G, c⟩ := q.run; c.d.def_ 32 (d := D__law_asks) rfl
theorem fd__law_claims (q : Fc w K mg) : ∃ fd, FunD K "_law_claims" "_law_claims" (defArgs s__law_claims) (defBody s__law_claims) (defScope s__law_claims) [] [] (He.ga K "_law_claims") fd := let ⟨_, X, G, c⟩ := q.run; c.d.def_ 33 (d := D__law_claims) rfl
theorem fd__law_is_name (q : Fc w K mg) : ∃ fd, FunD K "_law_is_name" "_law_is_name" (defArgs s__law_is_name) (defBody s__law_is_name) (defScope s__law_is_name) [] [] (He.ga K "_law_is_name") fd := let ⟨_, X, G, c⟩ := q.run; c.d.def_ 34 (d := D__law_is_name) rfl
theorem fd__law_is_count (q : Fc w K mg) : ∃ fd, FunD K "_law_is_count" "_law_is_count" (defArgs s__law_is_count) (defBody s__law_is_count) (defScope s__law_is_count) [] [] (He.ga K "_law_is_count") fd := let ⟨_, X, G, c⟩ := q.run; c.d.def_ 35 (d := D__law_is_count) rfl
theorem fd__law_fits (q : Fc w K mg) : ∃ fd, FunD K "_law_fits" "_law_fits" (defArgs s__law_fits) (defBody s__law_fits) (defScope s__law_fits) [] [] (He.ga K "_law_fits") fd := let ⟨_, X, G, c⟩ := q.run; c.d.def_ 36 (d := D__law_fits) rfl
theorem fd__law_due (q : Fc w K mg) : ∃ fd, FunD K "_law_due" "_law_due" (defArgs s__law_due) (defBody s__law_due) (defScope s__law_due) [] [] (He.ga K "_law_due") fd := let ⟨_, X, G, c⟩ := q.run; c.d.def_ 37 (d := D__law_due) rfl
theorem fd__law_part (q : Fc w K mg) : ∃ fd, FunD K "_law_part" "_law_part" (defArgs s__law_part) (defBody s__law_part) (defScope s__law_part) [] [] (He.ga K "_law_part") fd := let ⟨_, X, G, c⟩ := q.run; c.d.def_ 38 (d := D__law_part) rfl
theorem fd__law_string (q : Fc w K mg) : ∃ fd, FunD K "_law_string" "_law_string" (defArgs s__law_string) (defBody s__law_string) (defScope s__law_string) [] [] (He.ga K "_law_string") fd := let ⟨_, X, G, c⟩ := q.run; c.d.def_ 39 (d := D__law_string) rfl
theorem fd_law (q : Fc w K mg) : ∃ fd, FunD K "law" "law" (defArgs s_law) (defBody s_law) (defScope s_law) [] [] (He.ga K "law") fd := let ⟨_, X, G, c⟩ := q.run; c.d.def_ 40 (d := D_law) rfl
end
end C95
set_option maxHeartbeats 4000000
namespace C95
open PySem PySem.Spec L2 De
def b_trimmed : De.Env → Out SO := (ySeq (ySet 1 (xCall (on1 lenD) (xCons (xVar 0) xNil))) (ySeq (whileD (xAndT (xB (xBin gGt (xVar 1) (xC (PyData.int 0)))) (xB (xBin gEq (xBin gIx (xVar 0) (xBin gSub (xVar 1) (xC (PyData.int 1)))) (xC (PyData.int 0))))) (ySet 1 (xBin gSub (xVar 1) (xC (PyData.int 1)))) 400) (yRet (xCallL listD (xCons (xSl (xVar 0) xNoP (xPart (xVar 1))) xNil)))))
def f_trimmed : List PyData → Out PyData := runB 2 1 .im b_trimmed
theorem len_trimmed : ∀ ds, ds.length ≠ 1 → f_trimmed ds = .bad := runB_len
def b_trimmed_plane : De.Env → Out SO := (ySeq (ySet 1 (xComp (xItems (xVar 0)) (zName 2) xYes (xFn f_trimmed (xCons (xVar 2) xNil)) [2])) (ySeq (whileD (xAndT (xB (xBinS 1 gNe (xLst xNil))) (xB (xBin gEq (xIxS 1 (xNeg (xC (PyData.int 1)))) (xLst xNil)))) (yDrop (xPop 1)) 400) (yRet (xVar 1))))
def f_trimmed_plane : List PyData → Out PyData := runB 3 1 .im b_trimmed_plane
theorem len_trimmed_plane : ∀ ds, ds.length ≠ 1 → f_trimmed_plane ds = .bad := runB_len
def b_behind_blanks : De.Env → Out SO := (ySeq (whileD (xAndT (xB (xBin gLt (xVar 1) (xCall (on1 lenD) (xCons (xVar 0) xNil)))) (xB (xBin gEq (xBin gIx (xVar 0) (xVar 1)) (xC (PyData.str " "))))) (ySet 1 (xBin gAdd (xVar 1) (xC (PyData.int 1)))) 400) (yRet (xVar 1)))
def f_behind_blanks : List PyData → Out PyData := runB 2 2 .im b_behind_blanks
theorem len_behind_blanks : ∀ ds, ds.length ≠ 2 → f_behind_blanks ds = .bad := runB_len
def b_behind_numeral : De.Env → Out SO := (ySeq (yIf (xB (xBin gEq (xSl (xVar 0) (xPart (xVar 1)) (xPart (xBin gAdd (xVar 1) (xC (PyData.int 1))))) (xC (PyData.str "0")))) (yRet (xBin gAdd (xVar 1) (xC (PyData.int 1)))) yNil) (ySeq (ySet 2 (xVar 1)) (ySeq (whileD (xAndT (xB (xBin gLt (xVar 1) (xCall (on1 lenD) (xCons (xVar 0) xNil)))) (xAndT (xB (xBin gIn (xBin gIx (xVar 0) (xVar 1)) (xC (PyData.str "0123456789")))) (xB (xBin gLt (xBin gSub (xVar 1) (xVar 2)) (xC (PyData.int 40)))))) (ySet 1 (xBin gAdd (xVar 1) (xC (PyData.int 1)))) 400) (yRet (xVar 1)))))
def f_behind_numeral : List PyData → Out PyData := runB 3 2 .im b_behind_numeral
theorem len_behind_numeral : ∀ ds, ds.length ≠ 2 → f_behind_numeral ds = .bad := runB_len
def b_read_letters : De.Env → Out SO := (ySeq (yAsg (xVar 2) (zTup 4 (zCons (zName 3) (zCons (zName 4) (zCons (zName 5) (zCons (zName 6) zNil)))))) (ySeq (ySet 7 (xBinL gRep (xLst (xCons (xC (PyData.int 0)) xNil)) (xCall (on1 lenD) (xCons (xVar 3) xNil)))) (ySeq (ySet 8 (xFn f_behind_blanks (xCons (xVar 0) (xCons (xVar 1) xNil)))) (ySeq (whileD (xAndT (xB (xBin gLt (xVar 8) (xCall (on1 lenD) (xCons (xVar 0) xNil)))) (xB (xBin gIn (xBin gIx (xVar 0) (xVar 8)) (xVar 3)))) (ySeq (ySet 9 (xMt (str1 indexD) (xVar 3) (xCons (xBin gIx (xVar 0) (xVar 8)) xNil))) (ySeq (yIf (xOrT (xB (xBin gEq (xIxS 7 (xVar 9)) (xVar 4))) (xB (xBin gEq (xCallS 7 sumL) (xVar 5)))) (yRet (xTup (xCons (xVar 8) (xCons (xVar 7) xNil)))) yNil) (ySeq (yAsg (xBin gAdd (xIxS 7 (xVar 9)) (xC (PyData.int 1))) (zIx 7 (xVar 9))) (ySeq (ySet 1 (xBin gAdd (xVar 8) (xC (PyData.int 1)))) (ySet 8 (xFn f_behind_blanks (xCons (xVar 0) (xCons (xVar 1) xNil)))))))) 400) (yRet (xTup (xCons (xVar 1) (xCons (xVar 7) xNil))))))))
def f_read_letters : List PyData → Out PyData := runB 10 3 .im b_read_letters
theorem len_read_letters : ∀ ds, ds.length ≠ 3 → f_read_letters ds = .bad := runB_len
def b_read_term : De.Env → Out SO := (ySeq (ySet 3 (xFn f_behind_numeral (xCons (xVar 0) (xCons (xVar 1) xNil)))) (ySeq (ySet 4 (xIf (xB (xBin gGt (xVar 3) (xVar 1))) (xCall (on1 intD) (xCons (xSl (xVar 0) (xPart (xVar 1)) (xPart (xVar 3))) xNil)) (xC (PyData.int 1)))) (ySeq (yAsg (xFn f_read_letters (xCons (xVar 0) (xCons (xVar 3) (xCons (xVar 2) xNil)))) (zTup 2 (zCons (zName 5) (zCons (zName 6) zNil)))) (ySeq (yIf (xAndT (xB (xBin gEq (xVar 3) (xVar 1))) (xB (xBin gEq (xCall (on1 (onL sumL)) (xCons (xVar 6) xNil)) (xC (PyData.int 0))))) (yRet (xTup (xCons (xVar 1) (xCons (xC (PyData.int 0)) (xCons (xC PyData.none) xNil))))) yNil) (yRet (xTup (xCons (xVar 5) (xCons (xVar 4) (xCons (xVar 6) xNil)))))))))
def f_read_term : List PyData → Out PyData := runB 7 3 .im b_read_term
theorem len_read_term : ∀ ds, ds.length ≠ 3 → f_read_term ds = .bad := runB_len
def b_read_sum : De.Env → Out SO := (ySeq (ySet 3 (xLst xNil)) (ySeq (ySet 1 (xFn f_behind_blanks (xCons (xVar 0) (xCons (xVar 1) xNil)))) (ySeq (ySet 4 (xC (PyData.int 1))) (ySeq (ySet 5 (xC (PyData.bool true))) (ySeq (yIf (xAndT (xB (xBin gNe (xSl (xVar 0) (xPart (xVar 1)) (xPart (xBin gAdd (xVar 1) (xC (PyData.int 1))))) (xC (PyData.str "")))) (xB (xBin gIn (xBin gIx (xVar 0) (xVar 1)) (xC (PyData.str "+-"))))) (ySeq (ySet 4 (xIf (xB (xBin gEq (xBin gIx (xVar 0) (xVar 1)) (xC (PyData.str "-")))) (xNeg (xC (PyData.int 1))) (xC (PyData.int 1)))) (ySet 1 (xFn f_behind_blanks (xCons (xVar 0) (xCons (xBin gAdd (xVar 1) (xC (PyData.int 1))) xNil))))) yNil) (ySeq (whileD (xB (xVar 5)) (ySeq (yAsg (xFn f_read_term (xCons (xVar 0) (xCons (xVar 1) (xCons (xVar 2) xNil)))) (zTup 3 (zCons (zName 1) (zCons (zName 6) (zCons (zName 7) zNil))))) (ySeq (yIf (xB (xBin gIsN (xVar 7) (xC PyData.none))) (yRet (xTup (xCons (xVar 1) (xCons (xC PyData.none) xNil)))) yNil) (ySeq (yApp 3 (xTup (xCons (xBin gMul (xVar 4) (xVar 6)) (xCons (xVar 7) xNil)))) (ySeq (ySet 1 (xFn f_behind_blanks (xCons (xVar 0) (xCons (xVar 1) xNil)))) (ySeq (ySet 5 (xAnd (xBin gLt (xVar 1) (xCall (on1 lenD) (xCons (xVar 0) xNil))) (xBin gIn (xBin gIx (xVar 0) (xVar 1)) (xC (PyData.str "+-"))))) (yIf (xB (xVar 5)) (ySeq (ySet 4 (xIf (xB (xBin gEq (xBin gIx (xVar 0) (xVar 1)) (xC (PyData.str "-")))) (xNeg (xC (PyData.int 1))) (xC (PyData.int 1)))) (ySet 1 (xFn f_behind_blanks (xCons (xVar 0) (xCons (xBin gAdd (xVar 1) (xC (PyData.int 1))) xNil))))) yNil)))))) 400) (yRet (xTup (xCons (xVar 1) (xCons (xVar 3) xNil))))))))))
def f_read_sum : List PyData → Out PyData := runB 8 3 .im b_read_sum
theorem len_read_sum : ∀ ds, ds.length ≠ 3 → f_read_sum ds = .bad := runB_len
def b_read_sums : De.Env → Out SO := (ySeq (yPar 2 3 (xLst xNil) (xC (PyData.int 0))) (ySeq (yFor (xRng rng1D (xCons (xBin gIx (xVar 1) (xC (PyData.int 3))) xNil)) (zName 4) (ySeq (yAsg (xFn f_read_sum (xCons (xVar 0) (xCons (xVar 3) (xCons (xVar 1) xNil)))) (zTup 2 (zCons (zName 3) (zCons (zName 5) zNil)))) (ySeq (yIf (xB (xBin gIsN (xVar 5) (xC PyData.none))) (yRet (xTup (xCons (xVar 3) (xCons (xC PyData.none) xNil)))) yNil) (ySeq (yApp 2 (xVar 5)) (yIf (xB (xBin gLt (xBin gAdd (xVar 4) (xC (PyData.int 1))) (xBin gIx (xVar 1) (xC (PyData.int 3))))) (ySeq (yIf (xB (xBin gNe (xSl (xVar 0) (xPart (xVar 3)) (xPart (xBin gAdd (xVar 3) (xC (PyData.int 1))))) (xC (PyData.str ":")))) (yRet (xTup (xCons (xVar 3) (xCons (xC PyData.none) xNil)))) yNil) (ySet 3 (xBin gAdd (xVar 3) (xC (PyData.int 1))))) yNil))))) (yRet (xIf (xB (xBin gLt (xVar 3) (xCall (on1 lenD) (xCons (xVar 0) xNil)))) (xTup (xCons (xVar 3) (xCons (xC PyData.none) xNil))) (xTup (xCons (xNeg (xC (PyData.int 1))) (xCons (xVar 2) xNil)))))))
def f_read_sums : List PyData → Out PyData := runB 6 2 .im b_read_sums
theorem len_read_sums : ∀ ds, ds.length ≠ 2 → f_read_sums ds = .bad := runB_len
def b_line_by : De.Env → Out SO := (ySeq (ySet 3 (xBinL gRep (xLst (xCons (xC (PyData.int 0)) xNil)) (xBin gAdd (xC (PyData.int 1)) (xCall (on1 (onL maxD)) (xCons (xComp (xItems (xVar 0)) (zTup 2 (zCons (zName 1) (zCons (zName 2) zNil))) xYes (xBin gIx (xVar 2) (xC (PyData.int 0))) [1, 2]) xNil))))) (ySeq (yFor (xItems (xVar 0)) (zTup 2 (zCons (zName 1) (zCons (zName 2) zNil))) (yAsg (xBin gAdd (xIxS 3 (xBin gIx (xVar 2) (xC (PyData.int 0)))) (xVar 1)) (zIx 3 (xBin gIx (xVar 2) (xC (PyData.int 0)))))) (yRet (xFn f_trimmed (xCons (xVar 3) xNil)))))
def f_line_by : List PyData → Out PyData := runB 4 1 .im b_line_by
theorem len_line_by : ∀ ds, ds.length ≠ 1 → f_line_by ds = .bad := runB_len
def b_plane_by : De.Env → Out SO := (ySeq (yAsg (xTup (xCons (xCall (on1 (onL maxD)) (xCons (xComp (xItems (xVar 0)) (zTup 2 (zCons (zName 1) (zCons (zName 2) zNil))) xYes (xBin gIx (xVar 2) (xC (PyData.int 0))) [1, 2]) xNil)) (xCons (xCall (on1 (onL maxD)) (xCons (xComp (xItems (xVar 0)) (zTup 2 (zCons (zName 1) (zCons (zName 2) zNil))) xYes (xBin gIx (xVar 2) (xC (PyData.int 1))) [1, 2]) xNil)) xNil))) (zTup 2 (zCons (zName 3) (zCons (zName 4) zNil)))) (ySeq (ySet 5 (xComp (xRng rng1D (xCons (xBin gAdd (xVar 3) (xC (PyData.int 1))) xNil)) (zName 6) xYes (xBinL gRep (xLst (xCons (xC (PyData.int 0)) xNil)) (xBin gAdd (xVar 4) (xC (PyData.int 1)))) [6])) (ySeq (yFor (xItems (xVar 0)) (zTup 2 (zCons (zName 1) (zCons (zName 2) zNil))) (yAsg (xBin gAdd (xIxM 5 (xBin gIx (xVar 2) (xC (PyData.int 0))) (xBin gIx (xVar 2) (xC (PyData.int 1)))) (xVar 1)) (zIxM 5 (xBin gIx (xVar 2) (xC (PyData.int 0))) (xBin gIx (xVar 2) (xC (PyData.int 1)))))) (yRet (xFn f_trimmed_plane (xCons (xComp (xItems (xVar 5)) (zName 7) xYes (xFn f_trimmed (xCons (xVar 7) xNil)) [7]) xNil))))))
def f_plane_by : List PyData → Out PyData := runB 8 1 .im b_plane_by
theorem len_plane_by : ∀ ds, ds.length ≠ 1 → f_plane_by ds = .bad := runB_len
def b_straight_numbers : De.Env → Out SO := (ySeq (ySet 1 (xBin gAdd (xComp (xItems (xVar 0)) (zName 2) xYes (xBin gAdd (xCallL listD (xCons (xVar 2) xNil)) (xLst (xCons (xC (PyData.int 0)) (xCons (xC (PyData.int 0)) xNil)))) [2]) (xLst (xCons (xLst (xCons (xC (PyData.int 0)) (xCons (xC (PyData.int 0)) xNil))) (xCons (xLst (xCons (xC (PyData.int 0)) (xCons (xC (PyData.int 0)) xNil))) xNil))))) (yRet (xLst (xCons (xBin gIx (xBin gIx (xVar 1) (xC (PyData.int 1))) (xC (PyData.int 0))) (xCons (xBin gIx (xBin gIx (xVar 1) (xC (PyData.int 0))) (xC (PyData.int 1))) (xCons (xBin gIx (xBin gIx (xVar 1) (xC (PyData.int 0))) (xC (PyData.int 0))) xNil))))))
def f_straight_numbers : List PyData → Out PyData := runB 3 1 .im b_straight_numbers
theorem len_straight_numbers : ∀ ds, ds.length ≠ 1 → f_straight_numbers ds = .bad := runB_len
def b_told_by : De.Env → Out SO := (yRet (xBin gIx (xFn f_read_sums (xCons (xVar 0) (xCons (xVar 1) xNil))) (xC (PyData.int 1))))
def f_told_by : List PyData → Out PyData := runB 2 2 .im b_told_by
theorem len_told_by : ∀ ds, ds.length ≠ 2 → f_told_by ds = .bad := runB_len
def b_told_line : De.Env → Out SO := (ySeq (ySet 1 (xFn f_told_by (xCons (xVar 0) (xCons (xC d_OF_LINE) xNil)))) (yRet (xIf (xB (xBin gIsN (xVar 1) (xC PyData.none))) (xC PyData.none) (xFn f_line_by (xCons (xBin gIx (xVar 1) (xC (PyData.int 0))) xNil)))))
def f_told_line : List PyData → Out PyData := runB 2 1 .im b_told_line
theorem len_told_line : ∀ ds, ds.length ≠ 1 → f_told_line ds = .bad := runB_len
def b_told_plane : De.Env → Out SO := (ySeq (ySet 1 (xFn f_told_by (xCons (xVar 0) (xCons (xC d_OF_PLANE) xNil)))) (yRet (xIf (xB (xBin gIsN (xVar 1) (xC PyData.none))) (xC PyData.none) (xFn f_plane_by (xCons (xBin gIx (xVar 1) (xC (PyData.int 0))) xNil)))))
def f_told_plane : List PyData → Out PyData := runB 2 1 .im b_told_plane
theorem len_told_plane : ∀ ds, ds.length ≠ 1 → f_told_plane ds = .bad := runB_len
end C95
set_option maxHeartbeats 4000000
namespace C95
open PySem PySem.Spec L2 De
def b_told_lines : De.Env → Out SO := (ySeq (ySet 1 (xFn f_told_by (xCons (xVar 0) (xCons (xC d_OF_CURVE) xNil)))) (yRet (xIf (xB (xBin gIsN (xVar 1) (xC PyData.none))) (xC PyData.none) (xComp (xItems (xVar 1)) (zName 2) xYes (xFn f_line_by (xCons (xVar 2) xNil)) [2]))))
def f_told_lines : List PyData → Out PyData := runB 3 1 .im b_told_lines
theorem len_told_lines : ∀ ds, ds.length ≠ 1 → f_told_lines ds = .bad := runB_len
def b_told_numbers : De.Env → Out SO := (ySeq (ySet 1 (xFn f_told_by (xCons (xVar 0) (xCons (xC d_OF_CHANGE) xNil)))) (yRet (xIf (xB (xBin gIsN (xVar 1) (xC PyData.none))) (xC PyData.none) (xBin gAdd (xFn f_straight_numbers (xCons (xFn f_plane_by (xCons (xBin gIx (xVar 1) (xC (PyData.int 0))) xNil)) xNil)) (xFn f_straight_numbers (xCons (xFn f_plane_by (xCons (xBin gIx (xVar 1) (xC (PyData.int 1))) xNil)) xNil))))))
def f_told_numbers : List PyData → Out PyData := runB 2 1 .im b_told_numbers
theorem len_told_numbers : ∀ ds, ds.length ≠ 1 → f_told_numbers ds = .bad := runB_len
def b_is_name : De.Env → Out SO := (ySeq (yIf (xOrT (xNotT (xB (xIsi "str" (xVar 0)))) (xNotT (xB (xChain gLe gLe (xC (PyData.int 1)) (xCall (on1 lenD) (xCons (xVar 0) xNil)) (xC (PyData.int 8)))))) (yRet (xC (PyData.bool false))) yNil) (yRet (xAnd (xBin gIn (xBin gIx (xVar 0) (xC (PyData.int 0))) (xC (PyData.str "abcdefghijklmnopqrstuvwxyz"))) (xCall (on1 (onL allL)) (xCons (xComp (xItems (xVar 0)) (zName 1) xYes (xBin gIn (xVar 1) (xC (PyData.str "abcdefghijklmnopqrstuvwxyz0123456789"))) [1]) xNil)))))
def f_is_name : List PyData → Out PyData := runB 2 1 .im b_is_name
theorem len_is_name : ∀ ds, ds.length ≠ 1 → f_is_name ds = .bad := runB_len
def b_figures_in : De.Env → Out SO := (ySeq (yIf (xOrT (xB (xBin gEq (xVar 0) (xC (PyData.str "")))) (xOrT (xB (xCall (on1 (onL anyL)) (xCons (xComp (xItems (xVar 0)) (zName 1) xYes (xBin gNotIn (xVar 1) (xC (PyData.str "0123456789"))) [1]) xNil))) (xAndT (xB (xBin gEq (xBin gIx (xVar 0) (xC (PyData.int 0))) (xC (PyData.str "0")))) (xB (xBin gGt (xCall (on1 lenD) (xCons (xVar 0) xNil)) (xC (PyData.int 1))))))) (yRet (xC PyData.none)) yNil) (yRet (xIf (xB (xBin gLe (xCall (on1 lenD) (xCons (xVar 0) xNil)) (xC (PyData.int 6)))) (xCall (on1 intD) (xCons (xVar 0) xNil)) (xC PyData.none))))
def f_figures_in : List PyData → Out PyData := runB 2 1 .im b_figures_in
theorem len_figures_in : ∀ ds, ds.length ≠ 1 → f_figures_in ds = .bad := runB_len
def b_count_in : De.Env → Out SO := (yRet (xIf (xB (xBin gLe (xCall (on1 lenD) (xCons (xVar 0) xNil)) (xC (PyData.int 2)))) (xFn f_figures_in (xCons (xVar 0) xNil)) (xC PyData.none)))
def f_count_in : List PyData → Out PyData := runB 1 1 .im b_count_in
theorem len_count_in : ∀ ds, ds.length ≠ 1 → f_count_in ds = .bad := runB_len
def b_short_number : De.Env → Out SO := (ySeq (yIf (xNotT (xB (xMt (str1 startsD) (xVar 0) (xCons (xC (PyData.str "-")) xNil)))) (yRet (xFn f_figures_in (xCons (xVar 0) xNil))) yNil) (ySeq (ySet 1 (xFn f_figures_in (xCons (xSl (xVar 0) (xPart (xC (PyData.int 1))) xNoP) xNil))) (yRet (xIf (xAndT (xB (xBin gIsNotN (xVar 1) (xC PyData.none))) (xB (xBin gGt (xVar 1) (xC (PyData.int 0))))) (xBin gSub (xC (PyData.int 0)) (xVar 1)) (xC PyData.none)))))
def f_short_number : List PyData → Out PyData := runB 2 1 .im b_short_number
theorem len_short_number : ∀ ds, ds.length ≠ 1 → f_short_number ds = .bad := runB_len
def b_has_long_numeral : De.Env → Out SO := (ySeq (ySet 1 (xC (PyData.int 0))) (ySeq (yFor (xItems (xVar 0)) (zName 2) (ySeq (ySet 1 (xIf (xB (xBin gIn (xVar 2) (xC (PyData.str "0123456789")))) (xBin gAdd (xVar 1) (xC (PyData.int 1))) (xC (PyData.int 0)))) (yIf (xB (xBin gGt (xVar 1) (xC (PyData.int 6)))) (yRet (xC (PyData.bool true))) yNil))) (yRet (xC (PyData.bool false)))))
def f_has_long_numeral : List PyData → Out PyData := runB 3 1 .im b_has_long_numeral
theorem len_has_long_numeral : ∀ ds, ds.length ≠ 1 → f_has_long_numeral ds = .bad := runB_len
def b_text_in : De.Env → Out SO := (ySeq (yIf (xOrT (xB (xBin gGt (xCall (on1 lenD) (xCons (xVar 1) xNil)) (xC (PyData.int 80)))) (xB (xFn f_has_long_numeral (xCons (xVar 1) xNil)))) (yRet (xC PyData.none)) yNil) (ySeq (yIf (xB (xBin gEq (xVar 0) (xC (PyData.str "plane text")))) (yRet (xFn f_told_plane (xCons (xVar 1) xNil))) yNil) (ySeq (yIf (xB (xBin gEq (xVar 0) (xC (PyData.str "line text")))) (yRet (xFn f_told_line (xCons (xVar 1) xNil))) yNil) (yRet (xIf (xB (xBin gEq (xVar 0) (xC (PyData.str "change text")))) (xFn f_told_numbers (xCons (xVar 1) xNil)) (xFn f_told_lines (xCons (xVar 1) xNil)))))))
def f_text_in : List PyData → Out PyData := runB 2 2 .im b_text_in
theorem len_text_in : ∀ ds, ds.length ≠ 2 → f_text_in ds = .bad := runB_len
def b_told_of_kind : De.Env → Out SO := (ySeq (yIf (xB (xBin gIn (xVar 0) (xC d_NAMES))) (yRet (xIf (xB (xFn f_is_name (xCons (xVar 1) xNil))) (xVar 1) (xC PyData.none))) yNil) (ySeq (yIf (xB (xBin gEq (xVar 0) (xC (PyData.str "count")))) (yRet (xFn f_count_in (xCons (xVar 1) xNil))) yNil) (yRet (xIf (xB (xBin gEq (xVar 0) (xC (PyData.str "number")))) (xFn f_short_number (xCons (xVar 1) xNil)) (xFn f_text_in (xCons (xVar 0) (xCons (xVar 1) xNil)))))))
def f_told_of_kind : List PyData → Out PyData := runB 2 2 .im b_told_of_kind
theorem len_told_of_kind : ∀ ds, ds.length ≠ 2 → f_told_of_kind ds = .bad := runB_len
def b_kinds_of : De.Env → Out SO := (ySeq (ySet 1 (xBin gIx (xVar 0) (xC (PyData.int 0)))) (ySeq (yIf (xB (xBin gEq (xVar 1) (xC (PyData.str "claim")))) (yRet (xIf (xAndT (xB (xBin gGt (xCall (on1 lenD) (xCons (xVar 0) xNil)) (xC (PyData.int 2)))) (xB (xKIn t_CLAIMS false (xBin gIx (xVar 0) (xC (PyData.int 2)))))) (xBin gAdd (xTup (xCons (xC (PyData.str "label")) (xCons (xC (PyData.str "word")) xNil))) (xKIx t_CLAIMS (xBin gIx (xVar 0) (xC (PyData.int 2))))) (xC PyData.none))) yNil) (ySeq (yIf (xB (xKIn t_DEEDS false (xVar 1))) (yRet (xKIx t_DEEDS (xVar 1))) yNil) (yRet (xIf (xB (xKIn t_QUESTIONS false (xVar 1))) (xKIx t_QUESTIONS (xVar 1)) (xC PyData.none))))))
def f_kinds_of : List PyData → Out PyData := runB 2 1 .im b_kinds_of
theorem len_kinds_of : ∀ ds, ds.length ≠ 1 → f_kinds_of ds = .bad := runB_len
def b_command_parts : De.Env → Out SO := (ySeq (yIf (xNotT (xB (xIsi "str" (xVar 0)))) (yRet (xC PyData.none)) yNil) (ySeq (ySet 1 (xMtL splitD (xVar 0) (xCons (xC (PyData.str " ")) xNil))) (ySeq (ySet 2 (xFn f_kinds_of (xCons (xVar 1) xNil))) (ySeq (yIf (xOrT (xB (xBin gIsN (xVar 2) (xC PyData.none))) (xB (xBin gNe (xCall (on1 lenD) (xCons (xVar 2) xNil)) (xBin gSub (xCall (on1 lenD) (xCons (xVar 1) xNil)) (xC (PyData.int 1)))))) (yRet (xC PyData.none)) yNil) (ySeq (ySet 3 (xLst xNil)) (ySeq (yFor (xRng zipMD (xCons (xVar 2) (xCons (xSl (xVar 1) (xPart (xC (PyData.int 1))) xNoP) xNil))) (zTup 2 (zCons (zName 4) (zCons (zName 5) zNil))) (yApp 3 (xIf (xB (xBin gEq (xVar 4) (xC (PyData.str "word")))) (xVar 5) (xFn f_told_of_kind (xCons (xVar 4) (xCons (xVar 5) xNil)))))) (yRet (xIf (xB (xCall (on1 (onL anyL)) (xCons (xComp (xItems (xVar 3)) (zName 6) xYes (xBin gIsN (xVar 6) (xC PyData.none)) [6]) xNil))) (xC PyData.none) (xTup (xCons (xBin gIx (xVar 1) (xC (PyData.int 0))) (xCons (xVar 3) xNil)))))))))))
def f_command_parts : List PyData → Out PyData := runB 7 1 .im b_command_parts
theorem len_command_parts : ∀ ds, ds.length ≠ 1 → f_command_parts ds = .bad := runB_len
def b_is_command : De.Env → Out SO := (yRet (xBin gIsNotN (xFn f_command_parts (xCons (xVar 0) xNil)) (xC PyData.none)))
def f_is_command : List PyData → Out PyData := runB 1 1 .im b_is_command
theorem len_is_command : ∀ ds, ds.length ≠ 1 → f_is_command ds = .bad := runB_len
def b_is_deed : De.Env → Out SO := (ySeq (ySet 1 (xFn f_command_parts (xCons (xVar 0) xNil))) (yRet (xAnd (xBin gIsNotN (xVar 1) (xC PyData.none)) (xKIn t_DEEDS false (xBin gIx (xVar 1) (xC (PyData.int 0)))))))
def f_is_deed : List PyData → Out PyData := runB 2 1 .im b_is_deed
theorem len_is_deed : ∀ ds, ds.length ≠ 1 → f_is_deed ds = .bad := runB_len
def b__law_pot : De.Env → Out SO := (ySeq (ySet 2 (xIf (xB (xBin gLt (xVar 1) (xCallS 0 (fun ds => some (.int ds.length))))) (xCall (on1 absD) (xCons (xIxS 0 (xVar 1)) xNil)) (xBin gAdd (xBin gMul (xC (PyData.int 2203)) (xVar 1)) (xC (PyData.int 1301))))) (yRet (xLst (xCons (xCall (on2 max2D) (xCons (xC (PyData.int 0)) (xCons (xBin gSub (xVar 2) (xBin gPow (xC (PyData.int 10)) (xC (PyData.int 18)))) xNil))) (xCons (xBin gAdd (xBin gMod (xCall (on1 intD) (xCons (xBin gAdd (xBin gAdd (xBin gMul (xBin gMod (xCall (on1 intD) (xCons (xVar 2) xNil)) (xC (PyData.int 2147483549))) (xC (PyData.int 44017))) (xBin gMul (xC (PyData.int 877)) (xVar 1))) (xC (PyData.int 23003))) xNil)) (xC (PyData.int 2147483579))) (xC (PyData.int 1))) xNil)))))
def f__law_pot : List PyData → Out PyData := runB 3 2 .ml b__law_pot
theorem len__law_pot : ∀ ds, ds.length ≠ 2 → f__law_pot ds = .bad := runB_len
end C95
set_option maxHeartbeats 4000000
namespace C95
open PySem PySem.Spec L2 De
def b__law_draw : De.Env → Out SO := (ySeq (yIf (xB (xBin gGt (xIxS 0 (xC (PyData.int 0))) (xC (PyData.int 0)))) (ySeq (yAsg (xCall (on2 divmodD) (xCons (xIxS 0 (xC (PyData.int 0))) (xCons (xVar 1) xNil))) (zTup 2 (zCons (zIx 0 (xC (PyData.int 0))) (zCons (zName 2) zNil)))) (yRet (xVar 2))) yNil) (ySeq (yAsg (xBin gMod (xCall (on1 intD) (xCons (xBin gAdd (xBin gMul (xIxS 0 (xC (PyData.int 1))) (xC (PyData.int 44017))) (xC (PyData.int 877))) xNil)) (xC (PyData.int 2147483629))) (zIx 0 (xC (PyData.int 1)))) (yRet (xBin gMod (xCall (on1 intD) (xCons (xBin gDiv (xBin gMod (xCall (on1 intD) (xCons (xBin gMul (xIxS 0 (xC (PyData.int 1))) (xIxS 0 (xC (PyData.int 1)))) xNil)) (xC (PyData.int 2147483587))) (xC (PyData.int 13))) xNil)) (xVar 1)))))
def f__law_draw : List PyData → Out PyData := runB 3 2 .im b__law_draw
theorem len__law_draw : ∀ ds, ds.length ≠ 2 → f__law_draw ds = .bad := runB_len
def b__law_pick : De.Env → Out SO := (yRet (xBin gIx (xVar 1) (xFn1 0 f__law_draw (xCons (xCall (on1 lenD) (xCons (xVar 1) xNil)) xNil))))
def f__law_pick : List PyData → Out PyData := runB 2 2 .im b__law_pick
theorem len__law_pick : ∀ ds, ds.length ≠ 2 → f__law_pick ds = .bad := runB_len
def b__law_texts : De.Env → Out SO := (ySeq (ySet 0 (xLst (xCons (xTup (xCons (xC (PyData.str "xx-2yy")) (xCons (xLst (xCons (xC (PyData.str "plane")) xNil)) xNil))) (xCons (xTup (xCons (xC (PyData.str "0")) (xCons (xLst (xCons (xC (PyData.str "plane")) (xCons (xC (PyData.str "line")) xNil))) xNil))) (xCons (xTup (xCons (xC (PyData.str "-x+y-3")) (xCons (xLst (xCons (xC (PyData.str "plane")) xNil)) xNil))) (xCons (xTup (xCons (xC (PyData.str "tt-2")) (xCons (xLst (xCons (xC (PyData.str "line")) xNil)) xNil))) (xCons (xTup (xCons (xC (PyData.str "-t")) (xCons (xLst (xCons (xC (PyData.str "line")) xNil)) xNil))) (xCons (xTup (xCons (xC (PyData.str "t:t:t")) (xCons (xLst (xCons (xC (PyData.str "curve")) xNil)) xNil))) xNil)))))))) (ySeq (ySet 0 (xBin gAdd (xVar 0) (xLst (xCons (xTup (xCons (xC (PyData.str "tt:ttt:1")) (xCons (xLst (xCons (xC (PyData.str "curve")) xNil)) xNil))) (xCons (xTup (xCons (xC (PyData.str "x+2y:y-1")) (xCons (xLst (xCons (xC (PyData.str "change")) xNil)) xNil))) (xCons (xTup (xCons (xC (PyData.str "x:x")) (xCons (xLst (xCons (xC (PyData.str "change")) xNil)) xNil))) (xCons (xTup (xCons (xC (PyData.str "y:-x")) (xCons (xLst (xCons (xC (PyData.str "change")) xNil)) xNil))) (xCons (xTup (xCons (xC (PyData.str "xy:x")) (xCons (xLst xNil) xNil))) (xCons (xTup (xCons (xC (PyData.str "x-")) (xCons (xLst xNil) xNil))) (xCons (xTup (xCons (xC (PyData.str "+")) (xCons (xLst xNil) xNil))) (xCons (xTup (xCons (xC (PyData.str "")) (xCons (xLst xNil) xNil))) xNil))))))))))) (ySeq (ySet 0 (xBin gAdd (xVar 0) (xLst (xCons (xTup (xCons (xC (PyData.str "01")) (xCons (xLst xNil) xNil))) (xCons (xTup (xCons (xC (PyData.str "x:")) (xCons (xLst xNil) xNil))) (xCons (xTup (xCons (xC (PyData.str "t:t")) (xCons (xLst xNil) xNil))) (xCons (xTup (xCons (xC (PyData.str "tttttt:t:1")) (xCons (xLst xNil) xNil))) (xCons (xTup (xCons (xC (PyData.str "1234567x")) (xCons (xLst xNil) xNil))) (xCons (xTup (xCons (xC (PyData.str "123456x")) (xCons (xLst (xCons (xC (PyData.str "plane")) xNil)) xNil))) (xCons (xTup (xCons (xBin gStrRep (xC (PyData.str "x")) (xC (PyData.int 9))) (xCons (xLst xNil) xNil))) (xCons (xTup (xCons (xBin gAdd (xBin gStrRep (xC (PyData.str "x+")) (xC (PyData.int 40))) (xC (PyData.str "y"))) (xCons (xLst xNil) xNil))) xNil))))))))))) (yRet (xBin gAdd (xVar 0) (xLst (xCons (xTup (xCons (xBin gAdd (xBin gStrRep (xC (PyData.str "x+")) (xC (PyData.int 39))) (xC (PyData.str "xy"))) (xCons (xLst (xCons (xC (PyData.str "plane")) xNil)) xNil))) (xCons (xTup (xCons (xC (PyData.str "3")) (xCons (xLst (xCons (xC (PyData.str "plane")) (xCons (xC (PyData.str "line")) xNil))) xNil))) (xCons (xTup (xCons (xC (PyData.str "3:t:1")) (xCons (xLst (xCons (xC (PyData.str "curve")) xNil)) xNil))) (xCons (xTup (xCons (xC (PyData.str "3:y")) (xCons (xLst (xCons (xC (PyData.str "change")) xNil)) xNil))) (xCons (xTup (xCons (xC (PyData.str "x--y")) (xCons (xLst xNil) xNil))) (xCons (xTup (xCons (xC (PyData.str "t+x")) (xCons (xLst xNil) xNil))) (xCons (xTup (xCons (xC (PyData.str "2x3")) (xCons (xLst xNil) xNil))) (xCons (xTup (xCons (xBin gStrRep (xC (PyData.str "t")) (xC (PyData.int 12))) (xCons (xLst (xCons (xC (PyData.str "line")) xNil)) xNil))) xNil))))))))))))))
def f__law_texts : List PyData → Out PyData := runB 1 0 .im b__law_texts
theorem len__law_texts : ∀ ds, ds.length ≠ 0 → f__law_texts ds = .bad := runB_len
def b__law_deeds : De.Env → Out SO := (ySeq (ySet 0 (xDisp (xPCons (xC (PyData.str "plane")) (xLst (xCons (xC (PyData.str "name")) (xCons (xC (PyData.str "plane")) xNil))) (xPCons (xC (PyData.str "line")) (xLst (xCons (xC (PyData.str "name")) (xCons (xC (PyData.str "line")) xNil))) (xPCons (xC (PyData.str "curve")) (xLst (xCons (xC (PyData.str "name")) (xCons (xC (PyData.str "curve")) xNil))) (xPCons (xC (PyData.str "change")) (xLst (xCons (xC (PyData.str "name")) (xCons (xC (PyData.str "change")) xNil))) (xPCons (xC (PyData.str "drop")) (xLst (xCons (xC (PyData.str "name")) xNil)) (xPCons (xC (PyData.str "forget")) (xLst (xCons (xC (PyData.str "name")) xNil)) xPNil)))))))) (ySeq (yFor (xItems (xLst (xCons (xC (PyData.str "sum")) (xCons (xC (PyData.str "less")) (xCons (xC (PyData.str "times")) (xCons (xC (PyData.str "common")) (xCons (xC (PyData.str "over")) (xCons (xC (PyData.str "led")) (xCons (xC (PyData.str "drawn")) xNil))))))))) (zName 1) (yPut 0 (xVar 1) (xLst (xCons (xC (PyData.str "name")) (xCons (xC (PyData.str "name")) (xCons (xC (PyData.str "name")) xNil)))))) (ySeq (yFor (xItems (xLst (xCons (xC (PyData.str "plain")) (xCons (xC (PyData.str "swap")) (xCons (xC (PyData.str "slope")) (xCons (xC (PyData.str "parting")) (xCons (xC (PyData.str "equation")) (xCons (xC (PyData.str "turn")) (xCons (xC (PyData.str "mult")) (xCons (xC (PyData.str "lead")) xNil)))))))))) (zName 1) (yPut 0 (xVar 1) (xLst (xCons (xC (PyData.str "name")) (xCons (xC (PyData.str "name")) xNil))))) (ySeq (yPut 0 (xC (PyData.str "row")) (xLst (xCons (xC (PyData.str "name")) (xCons (xC (PyData.str "name")) (xCons (xC (PyData.str "number")) xNil))))) (yRet (xVar 0))))))
def f__law_deeds : List PyData → Out PyData := runB 2 0 .im b__law_deeds
theorem len__law_deeds : ∀ ds, ds.length ≠ 0 → f__law_deeds ds = .bad := runB_len
def b__law_asks : De.Env → Out SO := (ySeq (ySet 0 (xDisp (xPCons (xC (PyData.str "undo")) (xLst xNil) (xPCons (xC (PyData.str "redo")) (xLst xNil) (xPCons (xC (PyData.str "states")) (xLst xNil) (xPCons (xC (PyData.str "names")) (xLst xNil) (xPCons (xC (PyData.str "same")) (xLst (xCons (xC (PyData.str "name")) (xCons (xC (PyData.str "name")) xNil))) (xPCons (xC (PyData.str "value")) (xLst (xCons (xC (PyData.str "name")) (xCons (xC (PyData.str "number")) (xCons (xC (PyData.str "number")) xNil)))) xPNil)))))))) (ySeq (yFor (xItems (xLst (xCons (xC (PyData.str "state")) (xCons (xC (PyData.str "claimed")) (xCons (xC (PyData.str "show")) (xCons (xC (PyData.str "pieces")) (xCons (xC (PyData.str "bound")) (xCons (xC (PyData.str "parts")) (xCons (xC (PyData.str "clean")) (xCons (xC (PyData.str "whole")) (xCons (xC (PyData.str "lesser")) (xCons (xC (PyData.str "passes")) xNil)))))))))))) (zName 1) (yPut 0 (xVar 1) (xLst (xCons (xC (PyData.str "name")) xNil)))) (ySeq (yFor (xItems (xLst (xCons (xC (PyData.str "count")) (xCons (xC (PyData.str "good")) (xCons (xC (PyData.str "at")) xNil))))) (zName 1) (yPut 0 (xVar 1) (xLst (xCons (xC (PyData.str "name")) (xCons (xC (PyData.str "number")) xNil))))) (yRet (xVar 0)))))
def f__law_asks : List PyData → Out PyData := runB 2 0 .im b__law_asks
theorem len__law_asks : ∀ ds, ds.length ≠ 0 → f__law_asks ds = .bad := runB_len
def b__law_claims : De.Env → Out SO := (ySeq (ySet 0 (xDisp (xPCons (xC (PyData.str "along")) (xLst (xCons (xC (PyData.str "name")) (xCons (xC (PyData.str "name")) (xCons (xC (PyData.str "count")) xNil)))) (xPCons (xC (PyData.str "aside")) (xLst (xCons (xC (PyData.str "name")) (xCons (xC (PyData.str "name")) (xCons (xC (PyData.str "count")) xNil)))) (xPCons (xC (PyData.str "within")) (xLst (xCons (xC (PyData.str "name")) (xCons (xC (PyData.str "name")) xNil))) (xPCons (xC (PyData.str "outside")) (xLst (xCons (xC (PyData.str "name")) (xCons (xC (PyData.str "name")) xNil))) xPNil)))))) (ySeq (yFor (xItems (xLst (xCons (xC (PyData.str "pieces")) (xCons (xC (PyData.str "otherwise")) (xCons (xC (PyData.str "degrees")) (xCons (xC (PyData.str "unlike")) xNil)))))) (zName 1) (yPut 0 (xVar 1) (xLst (xCons (xC (PyData.str "name")) (xCons (xC (PyData.str "count")) xNil))))) (ySeq (yFor (xItems (xLst (xCons (xC (PyData.str "clean")) (xCons (xC (PyData.str "double")) (xCons (xC (PyData.str "whole")) (xCons (xC (PyData.str "splits")) xNil)))))) (zName 1) (yPut 0 (xVar 1) (xLst (xCons (xC (PyData.str "name")) xNil)))) (yRet (xVar 0)))))
def f__law_claims : List PyData → Out PyData := runB 2 0 .im b__law_claims
theorem len__law_claims : ∀ ds, ds.length ≠ 0 → f__law_claims ds = .bad := runB_len
def b__law_is_name : De.Env → Out SO := (ySeq (ySet 1 (xC (PyData.str "abcdefghijklmnopqrstuvwxyz"))) (yRet (xAnd (xChain gLe gLe (xC (PyData.int 1)) (xCall (on1 lenD) (xCons (xVar 0) xNil)) (xC (PyData.int 8))) (xAnd (xBin gIn (xBin gIx (xVar 0) (xC (PyData.int 0))) (xVar 1)) (xCall (on1 (onL allL)) (xCons (xComp (xItems (xVar 0)) (zName 2) xYes (xBin gIn (xVar 2) (xBin gAdd (xVar 1) (xC (PyData.str "0123456789")))) [2]) xNil))))))
def f__law_is_name : List PyData → Out PyData := runB 3 1 .im b__law_is_name
theorem len__law_is_name : ∀ ds, ds.length ≠ 1 → f__law_is_name ds = .bad := runB_len
def b__law_is_count : De.Env → Out SO := (yRet (xAnd (xChain gLe gLe (xC (PyData.int 1)) (xCall (on1 lenD) (xCons (xVar 0) xNil)) (xVar 1)) (xAnd (xCall (on1 (onL allL)) (xCons (xComp (xItems (xVar 0)) (zName 2) xYes (xBin gIn (xVar 2) (xC (PyData.str "0123456789"))) [2]) xNil)) (xOr (xBin gEq (xVar 0) (xC (PyData.str "0"))) (xBin gNe (xBin gIx (xVar 0) (xC (PyData.int 0))) (xC (PyData.str "0")))))))
def f__law_is_count : List PyData → Out PyData := runB 3 2 .im b__law_is_count
theorem len__law_is_count : ∀ ds, ds.length ≠ 2 → f__law_is_count ds = .bad := runB_len
def b__law_fits : De.Env → Out SO := (ySeq (yIf (xB (xBin gEq (xVar 0) (xC (PyData.str "name")))) (yRet (xFn f__law_is_name (xCons (xVar 1) xNil))) yNil) (ySeq (yIf (xB (xBin gEq (xVar 0) (xC (PyData.str "count")))) (yRet (xFn f__law_is_count (xCons (xVar 1) (xCons (xC (PyData.int 2)) xNil)))) yNil) (ySeq (yIf (xB (xBin gEq (xVar 0) (xC (PyData.str "number")))) (yRet (xOr (xFn f__law_is_count (xCons (xVar 1) (xCons (xC (PyData.int 6)) xNil))) (xAnd (xBin gEq (xSl (xVar 1) xNoP (xPart (xC (PyData.int 1)))) (xC (PyData.str "-"))) (xAnd (xBin gNe (xVar 1) (xC (PyData.str "-0"))) (xFn f__law_is_count (xCons (xSl (xVar 1) (xPart (xC (PyData.int 1))) xNoP) (xCons (xC (PyData.int 6)) xNil))))))) yNil) (yRet (xBin gNe (xComp (xItems (xFn f__law_texts xNil)) (zTup 2 (zCons (zName 2) (zCons (zName 3) zNil))) (xAndT (xB (xBin gEq (xVar 2) (xVar 1))) (xB (xBin gIn (xVar 0) (xVar 3)))) (xVar 3) [2, 3]) (xLst xNil))))))
def f__law_fits : List PyData → Out PyData := runB 4 2 .im b__law_fits
theorem len__law_fits : ∀ ds, ds.length ≠ 2 → f__law_fits ds = .bad := runB_len
def b__law_due : De.Env → Out SO := (ySeq (ySet 1 (xMtL splitD (xVar 0) (xCons (xC (PyData.str " ")) xNil))) (ySeq (ySet 2 (xC PyData.none)) (ySeq (yIf (xB (xBin gEq (xBin gIx (xVar 1) (xC (PyData.int 0))) (xC (PyData.str "claim")))) (ySet 2 (xIf (xAndT (xB (xBin gGt (xCall (on1 lenD) (xCons (xVar 1) xNil)) (xC (PyData.int 2)))) (xB (xBin gDIn (xBin gIx (xVar 1) (xC (PyData.int 2))) (xFn f__law_claims xNil)))) (xBin gAdd (xLst (xCons (xC (PyData.str "name")) (xCons (xC (PyData.str "same")) xNil))) (xBin gDIx (xFn f__law_claims xNil) (xBin gIx (xVar 1) (xC (PyData.int 2))))) (xC PyData.none))) (yIf (xB (xBin gDIn (xBin gIx (xVar 1) (xC (PyData.int 0))) (xFn f__law_deeds xNil))) (ySet 2 (xBin gDIx (xFn f__law_deeds xNil) (xBin gIx (xVar 1) (xC (PyData.int 0))))) (yIf (xB (xBin gDIn (xBin gIx (xVar 1) (xC (PyData.int 0))) (xFn f__law_asks xNil))) (ySet 2 (xBin gDIx (xFn f__law_asks xNil) (xBin gIx (xVar 1) (xC (PyData.int 0))))) yNil))) (ySeq (yIf (xOrT (xB (xBin gIsN (xVar 2) (xC PyData.none))) (xB (xBin gNe (xCall (on1 lenD) (xCons (xVar 2) xNil)) (xBin gSub (xCall (on1 lenD) (xCons (xVar 1) xNil)) (xC (PyData.int 1)))))) (yRet (xLst (xCons (xC (PyData.bool false)) (xCons (xC (PyData.bool false)) xNil)))) yNil) (ySeq (ySet 3 (xCall (on1 (onL allL)) (xCons (xComp (xRng zipD (xCons (xVar 2) (xCons (xSl (xVar 1) (xPart (xC (PyData.int 1))) xNoP) xNil))) (zTup 2 (zCons (zName 4) (zCons (zName 5) zNil))) xYes (xOr (xBin gEq (xVar 4) (xC (PyData.str "same"))) (xFn f__law_fits (xCons (xVar 4) (xCons (xVar 5) xNil)))) [4, 5]) xNil))) (yRet (xLst (xCons (xVar 3) (xCons (xAnd (xVar 3) (xBin gDNotIn (xBin gIx (xVar 1) (xC (PyData.int 0))) (xFn f__law_asks xNil))) xNil)))))))))
def f__law_due : List PyData → Out PyData := runB 6 1 .im b__law_due
theorem len__law_due : ∀ ds, ds.length ≠ 1 → f__law_due ds = .bad := runB_len
def b__law_part : De.Env → Out SO := (ySeq (yIf (xOrT (xB (xBin gEq (xVar 1) (xC (PyData.str "name")))) (xB (xBin gEq (xFn1 0 f__law_draw (xCons (xC (PyData.int 12)) xNil)) (xC (PyData.int 0))))) (yRet (xFn1 0 f__law_pick (xCons (xIf (xB (xBin gEq (xFn1 0 f__law_draw (xCons (xC (PyData.int 3)) xNil)) (xC (PyData.int 0)))) (xLst (xCons (xC (PyData.str "p")) (xCons (xC (PyData.str "q")) (xCons (xC (PyData.str "p")) (xCons (xC (PyData.str "abcdefgh")) (xCons (xC (PyData.str "a1")) (xCons (xC (PyData.str "z9z")) (xCons (xC (PyData.str "p")) (xCons (xC (PyData.str "q")) (xCons (xC (PyData.str "k")) (xCons (xC (PyData.str "c")) (xCons (xC (PyData.str "A")) (xCons (xC (PyData.str "1a")) (xCons (xC (PyData.str "abcdefghi")) (xCons (xC (PyData.str "a_b")) (xCons (xC (PyData.str "")) xNil)))))))))))))))) (xLst (xCons (xC (PyData.str "p")) (xCons (xC (PyData.str "q2")) xNil)))) xNil))) yNil) (ySeq (yIf (xB (xBin gEq (xVar 1) (xC (PyData.str "count")))) (yRet (xFn1 0 f__law_pick (xCons (xLst (xCons (xC (PyData.str "0")) (xCons (xC (PyData.str "7")) (xCons (xC (PyData.str "12")) (xCons (xC (PyData.str "99")) (xCons (xC (PyData.str "2")) (xCons (xC (PyData.str "012")) (xCons (xC (PyData.str "100")) (xCons (xC (PyData.str "-1")) (xCons (xC (PyData.str "08")) (xCons (xC (PyData.str "a")) xNil))))))))))) xNil))) yNil) (ySeq (yIf (xB (xBin gEq (xVar 1) (xC (PyData.str "number")))) (yRet (xFn1 0 f__law_pick (xCons (xLst (xCons (xC (PyData.str "0")) (xCons (xC (PyData.str "-3")) (xCons (xC (PyData.str "123456")) (xCons (xC (PyData.str "-999999")) (xCons (xC (PyData.str "5")) (xCons (xC (PyData.str "-0")) (xCons (xC (PyData.str "1234567")) (xCons (xC (PyData.str "-01")) (xCons (xC (PyData.str "--1")) (xCons (xC (PyData.str "-")) xNil))))))))))) xNil))) yNil) (ySeq (ySet 2 (xComp (xItems (xFn f__law_texts xNil)) (zTup 2 (zCons (zName 3) (zCons (zName 4) zNil))) (xB (xBin gIn (xVar 1) (xVar 4))) (xVar 3) [3, 4])) (yRet (xIf (xB (xBin gEq (xFn1 0 f__law_draw (xCons (xC (PyData.int 2)) xNil)) (xC (PyData.int 0)))) (xFn1 0 f__law_pick (xCons (xVar 2) xNil)) (xBin gIx (xFn1 0 f__law_pick (xCons (xFn f__law_texts xNil) xNil)) (xC (PyData.int 0)))))))))
def f__law_part : List PyData → Out PyData := runB 5 2 .im b__law_part
theorem len__law_part : ∀ ds, ds.length ≠ 2 → f__law_part ds = .bad := runB_len
def b__law_string : De.Env → Out SO := (ySeq (ySet 1 (xFn1 0 f__law_draw (xCons (xC (PyData.int 6)) xNil))) (ySeq (yIf (xB (xBin gLt (xVar 1) (xC (PyData.int 3)))) (ySeq (ySet 2 (xFn1 0 f__law_pick (xCons (xCallL sortedD (xCons (xCallL keysD (xCons (xFn f__law_deeds xNil) xNil)) xNil)) xNil))) (yPar 3 4 (xBin gDIx (xFn f__law_deeds xNil) (xVar 2)) (xLst (xCons (xVar 2) xNil)))) (yIf (xB (xBin gEq (xVar 1) (xC (PyData.int 3)))) (ySeq (ySet 2 (xFn1 0 f__law_pick (xCons (xCallL sortedD (xCons (xCallL keysD (xCons (xFn f__law_asks xNil) xNil)) xNil)) xNil))) (yPar 3 4 (xBin gDIx (xFn f__law_asks xNil) (xVar 2)) (xLst (xCons (xVar 2) xNil)))) (ySeq (ySet 2 (xFn1 0 f__law_pick (xCons (xCallL sortedD (xCons (xCallL keysD (xCons (xFn f__law_claims xNil) xNil)) xNil)) xNil))) (yPar 3 4 (xBin gDIx (xFn f__law_claims xNil) (xVar 2)) (xLst (xCons (xC (PyData.str "claim")) (xCons (xFn1 0 f__law_part (xCons (xC (PyData.str "name")) xNil)) (xCons (xVar 2) xNil)))))))) (ySeq (yFor (xItems (xVar 3)) (zName 5) (yApp 4 (xFn1 0 f__law_part (xCons (xVar 5) xNil)))) (ySeq (ySet 6 (xFn1 0 f__law_draw (xCons (xC (PyData.int 9)) xNil))) (ySeq (yIf (xAndT (xB (xBin gEq (xVar 6) (xC (PyData.int 0)))) (xB (xBin gGt (xCallS 4 (fun ds => some (.int ds.length))) (xC (PyData.int 1))))) (yDrop (xPop 4)) (yIf (xB (xBin gEq (xVar 6) (xC (PyData.int 1)))) (yApp 4 (xC (PyData.str "p"))) (yIf (xB (xBin gEq (xVar 6) (xC (PyData.int 2)))) (yAsg (xFn1 0 f__law_pick (xCons (xLst (xCons (xC (PyData.str "")) (xCons (xC (PyData.str "Plane")) (xCons (xC (PyData.str "planes")) (xCons (xC (PyData.str "claim")) (xCons (xC (PyData.str "names")) (xCons (xC (PyData.str "undo")) (xCons (xC (PyData.str "sum")) xNil)))))))) xNil)) (zIx 4 (xC (PyData.int 0)))) yNil))) (yRet (xMt joinD (xIf (xB (xBin gEq (xVar 6) (xC (PyData.int 3)))) (xC (PyData.str "  ")) (xC (PyData.str " "))) (xCons (xVar 4) xNil))))))))
def f__law_string : List PyData → Out PyData := runB 7 1 .im b__law_string
theorem len__law_string : ∀ ds, ds.length ≠ 1 → f__law_string ds = .bad := runB_len
def b_law : De.Env → Out SO := (ySeq (ySet 1 (xFnS 0 f__law_pot (xCons (xC (PyData.int 0)) xNil))) (ySeq (yFor (xItems (xLst (xCons (xC PyData.none) (xCons (xC (PyData.int 5)) (xCons (xC (PyData.bool true)) (xCons (xLst xNil) (xCons (xLst (xCons (xC (PyData.str "undo")) xNil)) (xCons (xTup (xCons (xC (PyData.str "undo")) xNil)) (xCons xNewD (xCons (xC (PyData.str "")) (xCons (xC (PyData.str " ")) (xCons (xC (PyData.str "undo ")) (xCons (xC (PyData.str " undo")) (xCons (xC (PyData.str "undo\n")) xNil)))))))))))))) (zName 2) (yIf (xOrT (xB (xBin gIsNotB (xFn f_is_command (xCons (xVar 2) xNil)) (xC (PyData.bool false)))) (xOrT (xB (xBin gIsNotB (xFnK f_is_deed id (xCons (xVar 2) xNil)) (xC (PyData.bool false)))) (xB (xBin gIsNotB (xFn f_is_name (xCons (xVar 2) xNil)) (xC (PyData.bool false)))))) (yRet (xC (PyData.bool false))) yNil)) (ySeq (yFor (xRng rng1D (xCons (xC (PyData.int 6)) xNil)) (zName 3) (ySeq (ySet 2 (xFn1 1 f__law_string xNil)) (ySeq (yIf (xOrT (xB (xBin gNe (xCall (on1 reprD) (xCons (xLst (xCons (xFn f_is_command (xCons (xVar 2) xNil)) (xCons (xFn f_is_deed (xCons (xVar 2) xNil)) xNil))) xNil)) (xCall (on1 reprD) (xCons (xFn f__law_due (xCons (xVar 2) xNil)) xNil)))) (xB (xBin gNe (xFnK f_is_command id (xCons (xVar 2) xNil)) (xBin gIx (xFn f__law_due (xCons (xVar 2) xNil)) (xC (PyData.int 0)))))) (yRet (xC (PyData.bool false))) yNil) (yFor (xItems (xSl (xMtL splitD (xVar 2) (xCons (xC (PyData.str " ")) xNil)) (xPart (xC (PyData.int 1))) (xPart (xC (PyData.int 3))))) (zName 4) (yIf (xB (xBin gNe (xCall (on1 reprD) (xCons (xFn f_is_name (xCons (xVar 4) xNil)) xNil)) (xCall (on1 reprD) (xCons (xFn f__law_is_name (xCons (xVar 4) xNil)) xNil)))) (yRet (xC (PyData.bool false))) yNil))))) (yRet (xC (PyData.bool true))))))
def f_law : List PyData → Out PyData := runB 5 1 .im b_law
theorem len_law : ∀ ds, ds.length ≠ 1 → f_law ds = .bad := runB_len
end C95
set_option maxHeartbeats 4000000
namespace C95
open PySem PySem.Spec L2 De
section
variable {P : Program} {w : World} {K : PySem.W.Frag} {mg : Str → Option Value} {base : Heap} {xt : Nat → Addr × Str}
abbrev N_trimmed : List Str := ["numbers", "many"]
theorem sc_trimmed : FnScope ["numbers", "many"] ["numbers"] (defScope s_trimmed) := ⟨rfl, rfl, rfl, by decide +kernel, rfl, by decide +kernel, by decide +kernel⟩
theorem ok_trimmed (q : Fc w K mg) : Pm P w K mg base xt 1 "trimmed" s_trimmed ["numbers"] (df0 .im) f_trimmed := by
  obtain ⟨fd, F⟩ := fd_trimmed q
  refine ⟨fd, F, FunD.bindsN F fun _ _ _ _ _ _ us hl => match us, hl with | [_], _ => rfl, gg_trimmed q, ?_⟩
  exact fnD_of (k := 0) [.im, .im] [.im, .im] F sc_trimmed fun cdv A outer s H E gd hr =>
    (ss_cons (s_set 1 sc_trimmed.nd (e_callB c_len (gf_len q) rfl (a_cons (e_var 0) a_nil))) (ss_cons (s_while 400 (passes_of rfl) (t_w (w_and (t_cmp o_gt (e_var 1) e_int) (w_and1 (t_cmp (o_eq hr.units) (e_ix (e_var 0) (e_bin o_sub (e_var 1) e_int)) e_int)))) (ss_one (s_set 1 sc_trimmed.nd (e_bin o_sub (e_var 1) e_int)))) (ss_one (s_ret (EOk.fz (by decide) (e_callTyL c_list (gf_list q) rfl (a_cons (e_sl (e_var 0) o_none (o_some (e_var 1))) a_nil)))))))
abbrev N_trimmed_plane : List Str := ["lines", "found", "line"]
theorem sc_trimmed_plane : FnScope ["lines", "found", "line"] ["lines"] (defScope s_trimmed_plane) := ⟨rfl, rfl, rfl, by decide +kernel, rfl, by decide +kernel, by decide +kernel⟩
theorem ok_trimmed_plane (q : Fc w K mg) : Pm P w K mg base xt 2 "trimmed_plane" s_trimmed_plane ["lines"] (df0 .im) f_trimmed_plane := by
  obtain ⟨fd, F⟩ := fd_trimmed_plane q
  obtain ⟨fd_trimmed, U_trimmed, b_trimmed, m_trimmed, F_trimmed⟩ := (ok_trimmed (P := P) (base := base) (xt := xt) q).run
  refine ⟨fd, F, FunD.bindsN F fun _ _ _ _ _ _ us hl => match us, hl with | [_], _ => rfl, gg_trimmed_plane q, ?_⟩
  exact fnD_of (k := 1) [.im, .im, .im] [.im, .im, .im] F sc_trimmed_plane fun cdv A outer s H E gd hr =>
    (ss_cons (s_setLc 1 (.inl rfl) rfl sc_trimmed_plane.nd (own := [("line", 2)]) rfl rfl (blk_ok (N := N_trimmed_plane) (sc := defScope s_trimmed_plane) (by decide +kernel)) rfl (i_seq (e_var 0)) (fun _ _ _ _ _ => (gv_name 2 sc_trimmed_plane.nd)) (fun _ _ _ _ _ => ts_nil) (fun _ _ _ _ _ => (e_fn F_trimmed gd (hr.mono (by decide)) b_trimmed takes0 m_trimmed U_trimmed.kp (a_cons (e_var 2) a_nil) len_trimmed))) (ss_cons (s_while 400 (passes_of rfl) (t_w (w_and (t_cmpS 1 (f_ne hr.units) (EOk.fz (by decide) (e_lst a_nil))) (w_and1 (t_cmp (o_eq hr.units) (e_ixS 1 rfl (e_neg e_int)) (EOk.fz (by decide) (e_lst a_nil)))))) (ss_one (s_expr (e_pop 1 rfl)))) (ss_freeze 1 (ss_one (s_ret (e_var 1))))))
abbrev N_behind_blanks : List Str := ["text", "at"]
theorem sc_behind_blanks : FnScope ["text", "at"] ["text", "at"] (defScope s_behind_blanks) := ⟨rfl, rfl, rfl, by decide +kernel, rfl, by decide +kernel, by decide +kernel⟩
theorem ok_behind_blanks (q : Fc w K mg) : Pm P w K mg base xt 1 "behind_blanks" s_behind_blanks ["text", "at"] (df0 .im) f_behind_blanks := by
  obtain ⟨fd, F⟩ := fd_behind_blanks q
  refine ⟨fd, F, FunD.bindsN F fun _ _ _ _ _ _ us hl => match us, hl with | [_, _], _ => rfl, gg_behind_blanks q, ?_⟩
  exact fnD_of (k := 0) [.im, .im] [.im, .im] F sc_behind_blanks fun cdv A outer s H E gd hr =>
    (ss_cons (s_while 400 (passes_of rfl) (t_w (w_and (t_cmp o_lt (e_var 1) (e_callB c_len (gf_len q) rfl (a_cons (e_var 0) a_nil))) (w_and1 (t_cmp (o_eq hr.units) (e_ix (e_var 0) (e_var 1)) e_str)))) (ss_one (s_set 1 sc_behind_blanks.nd (e_bin o_add (e_var 1) e_int)))) (ss_one (s_ret (e_var 1))))
abbrev N_behind_numeral : List Str := ["text", "at", "begin"]
theorem sc_behind_numeral : FnScope ["text", "at", "begin"] ["text", "at"] (defScope s_behind_numeral) := ⟨rfl, rfl, rfl, by decide +kernel, rfl, by decide +kernel, by decide +kernel⟩
theorem ok_behind_numeral (q : Fc w K mg) : Pm P w K mg base xt 1 "behind_numeral" s_behind_numeral ["text", "at"] (df0 .im) f_behind_numeral := by
  obtain ⟨fd, F⟩ := fd_behind_numeral q
  refine ⟨fd, F, FunD.bindsN F fun _ _ _ _ _ _ us hl => match us, hl with | [_, _], _ => rfl, gg_behind_numeral q, ?_⟩
  exact fnD_of (k := 0) [.im, .im, .im] [.im, .im, .im] F sc_behind_numeral fun cdv A outer s H E gd hr =>
    (ss_cons (s_if (t_cmp (o_eq hr.units) (e_sl (e_var 0) (o_some (e_var 1)) (o_some (e_bin o_add (e_var 1) e_int))) e_str) (ss_one (s_ret (e_bin o_add (e_var 1) e_int))) ss_nil) (ss_cons (s_set 2 sc_behind_numeral.nd (e_var 1)) (ss_cons (s_while 400 (passes_of rfl) (t_w (w_and (t_cmp o_lt (e_var 1) (e_callB c_len (gf_len q) rfl (a_cons (e_var 0) a_nil))) (w_and (t_cmp o_in (e_ix (e_var 0) (e_var 1)) (e_gstr (gs_FIGURES_readers q))) (w_and1 (t_cmp o_lt (e_bin o_sub (e_var 1) (e_var 2)) (e_gint (gi_MOST_FIGURES_readers q))))))) (ss_one (s_set 1 sc_behind_numeral.nd (e_bin o_add (e_var 1) e_int)))) (ss_one (s_ret (e_var 1))))))
abbrev N_read_letters : List Str := ["text", "at", "kind", "letters", "most", "most_in_all", "sums", "powers", "spot", "place"]
theorem sc_read_letters : FnScope ["text", "at", "kind", "letters", "most", "most_in_all", "sums", "powers", "spot", "place"] ["text", "at", "kind"] (defScope s_read_letters) := ⟨rfl, rfl, rfl, by decide +kernel, rfl, by decide +kernel, by decide +kernel⟩
theorem ok_read_letters (q : Fc w K mg) : Pm P w K mg base xt 2 "read_letters" s_read_letters ["text", "at", "kind"] (df0 .im) f_read_letters := by
  obtain ⟨fd, F⟩ := fd_read_letters q
  obtain ⟨fd_behind_blanks, U_behind_blanks, b_behind_blanks, m_behind_blanks, F_behind_blanks⟩ := (ok_behind_blanks (P := P) (base := base) (xt := xt) q).run
  refine ⟨fd, F, FunD.bindsN F fun _ _ _ _ _ _ us hl => match us, hl with | [_, _, _], _ => rfl, gg_read_letters q, ?_⟩
  exact fnD_of (k := 1) [.im, .im, .im, .im, .im, .im, .im, .im, .im, .im] [.im, .im, .im, .im, .im, .im, .im, .im, .im, .im] F sc_read_letters fun cdv A outer s H E gd hr =>
    (ss_cons (s_asg (e_var 2) (g_tup 4 rfl (gs_cons (g_name 3 sc_read_letters.nd) (gs_cons (g_name 4 sc_read_letters.nd) (gs_cons (g_name 5 sc_read_letters.nd) (gs_cons (g_name 6 sc_read_letters.nd) gs_nil)))))) (ss_cons (s_set 7 sc_read_letters.nd (e_binL o_rep (EOk.fz (by decide) (e_lst (a_cons e_int a_nil))) (e_callB c_len (gf_len q) rfl (a_cons (e_var 3) a_nil)))) (ss_cons (s_set 8 sc_read_letters.nd (e_fn F_behind_blanks gd (hr.mono (by decide)) b_behind_blanks (takes_of rfl rfl rfl rfl) m_behind_blanks U_behind_blanks.kp (a_cons (e_var 0) (a_cons (e_var 1) a_nil)) len_behind_blanks)) (ss_cons (s_while 400 (passes_of rfl) (t_w (w_and (t_cmp o_lt (e_var 8) (e_callB c_len (gf_len q) rfl (a_cons (e_var 0) a_nil))) (w_and1 (t_cmp o_in (e_ix (e_var 0) (e_var 8)) (e_var 3))))) (ss_cons (s_set 9 sc_read_letters.nd (e_mt PySem.F.slot_str_index PySem.F.type_str_index m_index (e_var 3) (a_cons (e_ix (e_var 0) (e_var 8)) a_nil))) (ss_cons (s_if (t_w (w_or (t_cmp (o_eq hr.units) (e_ixS 7 rfl (e_var 9)) (e_var 4)) (w_or1 (t_cmp (o_eq hr.units) (e_callS 7 (cs_sum rfl) rfl (gf_sum q) rfl) (e_var 5))))) (ss_freeze 7 (ss_one (s_ret (e_tup (a_cons (e_var 8) (a_cons (e_var 7) a_nil)))))) ss_nil) (ss_cons (s_asg (e_bin o_add (e_ixS 7 rfl (e_var 9)) e_int) (g_ix 7 rfl (e_var 9))) (ss_cons (s_set 1 sc_read_letters.nd (e_bin o_add (e_var 8) e_int)) (ss_one (s_set 8 sc_read_letters.nd (e_fn F_behind_blanks gd (hr.mono (by decide)) b_behind_blanks (takes_of rfl rfl rfl rfl) m_behind_blanks U_behind_blanks.kp (a_cons (e_var 0) (a_cons (e_var 1) a_nil)) len_behind_blanks)))))))) (ss_freeze 7 (ss_one (s_ret (e_tup (a_cons (e_var 1) (a_cons (e_var 7) a_nil))))))))))
abbrev N_read_term : List Str := ["text", "at", "kind", "end", "number", "behind", "powers"]
theorem sc_read_term : FnScope ["text", "at", "kind", "end", "number", "behind", "powers"] ["text", "at", "kind"] (defScope s_read_term) := ⟨rfl, rfl, rfl, by decide +kernel, rfl, by decide +kernel, by decide +kernel⟩
theorem ok_read_term (q : Fc w K mg) : Pm P w K mg base xt 3 "read_term" s_read_term ["text", "at", "kind"] (df0 .im) f_read_term := by
  obtain ⟨fd, F⟩ := fd_read_term q
  obtain ⟨fd_behind_numeral, U_behind_numeral, b_behind_numeral, m_behind_numeral, F_behind_numeral⟩ := (ok_behind_numeral (P := P) (base := base) (xt := xt) q).run
  obtain ⟨fd_read_letters, U_read_letters, b_read_letters, m_read_letters, F_read_letters⟩ := (ok_read_letters (P := P) (base := base) (xt := xt) q).run
  refine ⟨fd, F, FunD.bindsN F fun _ _ _ _ _ _ us hl => match us, hl with | [_, _, _], _ => rfl, gg_read_term q, ?_⟩
  exact fnD_of (k := 2) [.im, .im, .im, .im, .im, .im, .im] [.im, .im, .im, .im, .im, .im, .im] F sc_read_term fun cdv A outer s H E gd hr =>
    (ss_cons (s_set 3 sc_read_term.nd (e_fn F_behind_numeral gd (hr.mono (by decide)) b_behind_numeral (takes_of rfl rfl rfl rfl) m_behind_numeral U_behind_numeral.kp (a_cons (e_var 0) (a_cons (e_var 1) a_nil)) len_behind_numeral)) (ss_cons (s_set 4 sc_read_term.nd (e_if (t_cmp o_gt (e_var 3) (e_var 1)) (e_callTy c_int (gf_int q) rfl (a_cons (e_sl (e_var 0) (o_some (e_var 1)) (o_some (e_var 3))) a_nil)) e_int)) (ss_cons (s_asg (e_fn F_read_letters gd (hr.mono (by decide)) b_read_letters (takes_of rfl rfl rfl rfl) m_read_letters U_read_letters.kp (a_cons (e_var 0) (a_cons (e_var 3) (a_cons (e_var 2) a_nil))) len_read_letters) (g_tup 2 rfl (gs_cons (g_name 5 sc_read_term.nd) (gs_cons (g_name 6 sc_read_term.nd) gs_nil)))) (ss_cons (s_if (t_w (w_and (t_cmp (o_eq hr.units) (e_var 3) (e_var 1)) (w_and1 (t_cmp (o_eq hr.units) (e_callB (CallS.d (cs_sum rfl)) (gf_sum q) rfl (a_cons (e_var 6) a_nil)) e_int)))) (ss_one (s_ret (e_tup (a_cons (e_var 1) (a_cons e_int (a_cons e_non a_nil)))))) ss_nil) (ss_one (s_ret (e_tup (a_cons (e_var 5) (a_cons (e_var 4) (a_cons (e_var 6) a_nil))))))))))
abbrev N_read_sum : List Str := ["text", "at", "kind", "terms", "sign", "wants", "number", "powers"]
theorem sc_read_sum : FnScope ["text", "at", "kind", "terms", "sign", "wants", "number", "powers"] ["text", "at", "kind"] (defScope s_read_sum) := ⟨rfl, rfl, rfl, by decide +kernel, rfl, by decide +kernel, by decide +kernel⟩
theorem ok_read_sum (q : Fc w K mg) : Pm P w K mg base xt 4 "read_sum" s_read_sum ["text", "at", "kind"] (df0 .im) f_read_sum := by
  obtain ⟨fd, F⟩ := fd_read_sum q
  obtain ⟨fd_behind_blanks, U_behind_blanks, b_behind_blanks, m_behind_blanks, F_behind_blanks⟩ := (ok_behind_blanks (P := P) (base := base) (xt := xt) q).run
  obtain ⟨fd_read_term, U_read_term, b_read_term, m_read_term, F_read_term⟩ := (ok_read_term (P := P) (base := base) (xt := xt) q).run
  refine ⟨fd, F, FunD.bindsN F fun _ _ _ _ _ _ us hl => match us, hl with | [_, _, _], _ => rfl, gg_read_sum q, ?_⟩
  exact fnD_of (k := 3) [.im, .im, .im, .im, .im, .im, .im, .im] [.im, .im, .im, .im, .im, .im, .im, .im] F sc_read_sum fun cdv A outer s H E gd hr =>
    (ss_cons (s_set 3 sc_read_sum.nd (e_lst a_nil)) (ss_cons (s_set 1 sc_read_sum.nd (e_fn F_behind_blanks gd (hr.mono (by decide)) b_behind_blanks (takes_of rfl rfl rfl rfl) m_behind_blanks U_behind_blanks.kp (a_cons (e_var 0) (a_cons (e_var 1) a_nil)) len_behind_blanks)) (ss_cons (s_set 4 sc_read_sum.nd e_int) (ss_cons (s_set 5 sc_read_sum.nd e_bl) (ss_cons (s_if (t_w (w_and (t_cmp (o_ne hr.units) (e_sl (e_var 0) (o_some (e_var 1)) (o_some (e_bin o_add (e_var 1) e_int))) e_str) (w_and1 (t_cmp o_in (e_ix (e_var 0) (e_var 1)) (e_gstr (gs_SIGNS_readers q)))))) (ss_cons (s_set 4 sc_read_sum.nd (e_if (t_cmp (o_eq hr.units) (e_ix (e_var 0) (e_var 1)) e_str) (e_neg e_int) e_int)) (ss_one (s_set 1 sc_read_sum.nd (e_fn F_behind_blanks gd (hr.mono (by decide)) b_behind_blanks (takes_of rfl rfl rfl rfl) m_behind_blanks U_behind_blanks.kp (a_cons (e_var 0) (a_cons (e_bin o_add (e_var 1) e_int) a_nil)) len_behind_blanks)))) ss_nil) (ss_cons (s_while 400 (passes_of rfl) (t_val (e_var 5)) (ss_cons (s_asg (e_fn F_read_term gd (hr.mono (by decide)) b_read_term (takes_of rfl rfl rfl rfl) m_read_term U_read_term.kp (a_cons (e_var 0) (a_cons (e_var 1) (a_cons (e_var 2) a_nil))) len_read_term) (g_tup 3 rfl (gs_cons (g_name 1 sc_read_sum.nd) (gs_cons (g_name 6 sc_read_sum.nd) (gs_cons (g_name 7 sc_read_sum.nd) gs_nil))))) (ss_cons (s_if (t_cmp o_isN (e_var 7) e_non) (ss_one (s_ret (e_tup (a_cons (e_var 1) (a_cons e_non a_nil))))) ss_nil) (ss_cons (s_app 3 rfl (e_tup (a_cons (e_bin o_mul (e_var 4) (e_var 6)) (a_cons (e_var 7) a_nil)))) (ss_cons (s_set 1 sc_read_sum.nd (e_fn F_behind_blanks gd (hr.mono (by decide)) b_behind_blanks (takes_of rfl rfl rfl rfl) m_behind_blanks U_behind_blanks.kp (a_cons (e_var 0) (a_cons (e_var 1) a_nil)) len_behind_blanks)) (ss_cons (s_set 5 sc_read_sum.nd (e_and (e_cmp o_lt (e_var 1) (e_callB c_len (gf_len q) rfl (a_cons (e_var 0) a_nil))) (e_one (e_cmp o_in (e_ix (e_var 0) (e_var 1)) (e_gstr (gs_SIGNS_readers q)))))) (ss_one (s_if (t_val (e_var 5)) (ss_cons (s_set 4 sc_read_sum.nd (e_if (t_cmp (o_eq hr.units) (e_ix (e_var 0) (e_var 1)) e_str) (e_neg e_int) e_int)) (ss_one (s_set 1 sc_read_sum.nd (e_fn F_behind_blanks gd (hr.mono (by decide)) b_behind_blanks (takes_of rfl rfl rfl rfl) m_behind_blanks U_behind_blanks.kp (a_cons (e_var 0) (a_cons (e_bin o_add (e_var 1) e_int) a_nil)) len_behind_blanks)))) ss_nil)))))))) (ss_freeze 3 (ss_one (s_ret (e_tup (a_cons (e_var 1) (a_cons (e_var 3) a_nil))))))))))))
abbrev N_read_sums : List Str := ["text", "kind", "sums", "at", "turn", "terms"]
theorem sc_read_sums : FnScope ["text", "kind", "sums", "at", "turn", "terms"] ["text", "kind"] (defScope s_read_sums) := ⟨rfl, rfl, rfl, by decide +kernel, rfl, by decide +kernel, by decide +kernel⟩
theorem ok_read_sums (q : Fc w K mg) : Pm P w K mg base xt 5 "read_sums" s_read_sums ["text", "kind"] (df0 .im) f_read_sums := by
  obtain ⟨fd, F⟩ := fd_read_sums q
  obtain ⟨fd_read_sum, U_read_sum, b_read_sum, m_read_sum, F_read_sum⟩ := (ok_read_sum (P := P) (base := base) (xt := xt) q).run
  refine ⟨fd, F, FunD.bindsN F fun _ _ _ _ _ _ us hl => match us, hl with | [_, _], _ => rfl, gg_read_sums q, ?_⟩
  exact fnD_of (k := 4) [.im, .im, .im, .im, .im, .im] [.im, .im, .im, .im, .im, .im] F sc_read_sums fun cdv A outer s H E gd hr =>
    (ss_cons (s_par 2 3 rfl sc_read_sums.nd (e_lst a_nil) e_int) (ss_cons (s_for (passes_of rfl) rfl (i_rng1 (gf_range q) (a_cons (e_ix (e_var 1) e_int) a_nil)) (g_name 4 sc_read_sums.nd) (ss_cons (s_asg (e_fn F_read_sum gd (hr.mono (by decide)) b_read_sum (takes_of rfl rfl rfl rfl) m_read_sum U_read_sum.kp (a_cons (e_var 0) (a_cons (e_var 3) (a_cons (e_var 1) a_nil))) len_read_sum) (g_tup 2 rfl (gs_cons (g_name 3 sc_read_sums.nd) (gs_cons (g_name 5 sc_read_sums.nd) gs_nil)))) (ss_cons (s_if (t_cmp o_isN (e_var 5) e_non) (ss_one (s_ret (e_tup (a_cons (e_var 3) (a_cons e_non a_nil))))) ss_nil) (ss_cons (s_app 2 rfl (e_var 5)) (ss_one (s_if (t_cmp o_lt (e_bin o_add (e_var 4) e_int) (e_ix (e_var 1) e_int)) (ss_cons (s_if (t_cmp (o_ne hr.units) (e_sl (e_var 0) (o_some (e_var 3)) (o_some (e_bin o_add (e_var 3) e_int))) (e_gstr (gs_COLON q))) (ss_one (s_ret (e_tup (a_cons (e_var 3) (a_cons e_non a_nil))))) ss_nil) (ss_one (s_set 3 sc_read_sums.nd (e_bin o_add (e_var 3) e_int)))) ss_nil)))))) (ss_freeze 2 (ss_one (s_ret (e_if (t_cmp o_lt (e_var 3) (e_callB c_len (gf_len q) rfl (a_cons (e_var 0) a_nil))) (e_tup (a_cons (e_var 3) (a_cons e_non a_nil))) (e_tup (a_cons (e_neg e_int) (a_cons (e_var 2) a_nil)))))))))
abbrev N_line_by : List Str := ["terms", "number", "powers", "found"]
theorem sc_line_by : FnScope ["terms", "number", "powers", "found"] ["terms"] (defScope s_line_by) := ⟨rfl, rfl, rfl, by decide +kernel, rfl, by decide +kernel, by decide +kernel⟩
theorem ok_line_by (q : Fc w K mg) : Pm P w K mg base xt 2 "line_by" s_line_by ["terms"] (df0 .im) f_line_by := by
  obtain ⟨fd, F⟩ := fd_line_by q
  obtain ⟨fd_trimmed, U_trimmed, b_trimmed, m_trimmed, F_trimmed⟩ := (ok_trimmed (P := P) (base := base) (xt := xt) q).run
  refine ⟨fd, F, FunD.bindsN F fun _ _ _ _ _ _ us hl => match us, hl with | [_], _ => rfl, gg_line_by q, ?_⟩
  exact fnD_of (k := 1) [.im, .im, .im, .im] [.im, .im, .im, .im] F sc_line_by fun cdv A outer s H E gd hr =>
    (ss_cons (s_set 3 sc_line_by.nd (e_binL o_rep (EOk.fz (by decide) (e_lst (a_cons e_int a_nil))) (e_bin o_add e_int (e_callB (CallS.d (cs_max rfl)) (gf_max q) rfl (a_cons (EOk.fz (by decide) (e_comp (.inl rfl) rfl sc_line_by.nd (own := [("number", 1), ("powers", 2)]) rfl rfl (blk_ok (N := N_line_by) (sc := defScope s_line_by) (by decide +kernel)) (i_seq (e_var 0)) (fun _ _ _ _ _ => (gv_tup 2 rfl (gvs_cons (gv_name 1 sc_line_by.nd) (gvs_cons (gv_name 2 sc_line_by.nd) gvs_nil)))) (fun _ _ _ _ _ => ts_nil) (fun _ _ _ _ _ => (e_ix (e_var 2) e_int)))) a_nil))))) (ss_cons (s_for (passes_of rfl) rfl (i_seq (e_var 0)) (g_tup 2 rfl (gs_cons (g_name 1 sc_line_by.nd) (gs_cons (g_name 2 sc_line_by.nd) gs_nil))) (ss_one (s_asg (e_bin o_add (e_ixS 3 rfl (e_ix (e_var 2) e_int)) (e_var 1)) (g_ix 3 rfl (e_ix (e_var 2) e_int))))) (ss_freeze 3 (ss_one (s_ret (e_fn F_trimmed gd (hr.mono (by decide)) b_trimmed (takes_of rfl rfl rfl rfl) m_trimmed U_trimmed.kp (a_cons (e_var 3) a_nil) len_trimmed))))))
abbrev N_plane_by : List Str := ["terms", "number", "powers", "wide", "high", "found", "across", "line"]
theorem sc_plane_by : FnScope ["terms", "number", "powers", "wide", "high", "found", "across", "line"] ["terms"] (defScope s_plane_by) := ⟨rfl, rfl, rfl, by decide +kernel, rfl, by decide +kernel, by decide +kernel⟩
theorem ok_plane_by (q : Fc w K mg) : Pm P w K mg base xt 3 "plane_by" s_plane_by ["terms"] (df0 .im) f_plane_by := by
  obtain ⟨fd, F⟩ := fd_plane_by q
  obtain ⟨fd_trimmed, U_trimmed, b_trimmed, m_trimmed, F_trimmed⟩ := (ok_trimmed (P := P) (base := base) (xt := xt) q).run
  obtain ⟨fd_trimmed_plane, U_trimmed_plane, b_trimmed_plane, m_trimmed_plane, F_trimmed_plane⟩ := (ok_trimmed_plane (P := P) (base := base) (xt := xt) q).run
  refine ⟨fd, F, FunD.bindsN F fun _ _ _ _ _ _ us hl => match us, hl with | [_], _ => rfl, gg_plane_by q, ?_⟩
  exact fnD_of (k := 2) [.im, .im, .im, .im, .im, .im, .im, .im] [.im, .im, .im, .im, .im, .im, .im, .im] F sc_plane_by fun cdv A outer s H E gd hr =>
    (ss_cons (s_asg (e_tup (a_cons (e_callB (CallS.d (cs_max rfl)) (gf_max q) rfl (a_cons (EOk.fz (by decide) (e_comp (.inl rfl) rfl sc_plane_by.nd (own := [("number", 1), ("powers", 2)]) rfl rfl (blk_ok (N := N_plane_by) (sc := defScope s_plane_by) (by decide +kernel)) (i_seq (e_var 0)) (fun _ _ _ _ _ => (gv_tup 2 rfl (gvs_cons (gv_name 1 sc_plane_by.nd) (gvs_cons (gv_name 2 sc_plane_by.nd) gvs_nil)))) (fun _ _ _ _ _ => ts_nil) (fun _ _ _ _ _ => (e_ix (e_var 2) e_int)))) a_nil)) (a_cons (e_callB (CallS.d (cs_max rfl)) (gf_max q) rfl (a_cons (EOk.fz (by decide) (e_comp (.inl rfl) rfl sc_plane_by.nd (own := [("number", 1), ("powers", 2)]) rfl rfl (blk_ok (N := N_plane_by) (sc := defScope s_plane_by) (by decide +kernel)) (i_seq (e_var 0)) (fun _ _ _ _ _ => (gv_tup 2 rfl (gvs_cons (gv_name 1 sc_plane_by.nd) (gvs_cons (gv_name 2 sc_plane_by.nd) gvs_nil)))) (fun _ _ _ _ _ => ts_nil) (fun _ _ _ _ _ => (e_ix (e_var 2) e_int)))) a_nil)) a_nil))) (g_tup 2 rfl (gs_cons (g_name 3 sc_plane_by.nd) (gs_cons (g_name 4 sc_plane_by.nd) gs_nil)))) (ss_cons (s_setLc 5 (.inr rfl) rfl sc_plane_by.nd (own := [("across", 6)]) rfl rfl (blk_ok (N := N_plane_by) (sc := defScope s_plane_by) (by decide +kernel)) rfl (i_rng1 (gf_range q) (a_cons (e_bin o_add (e_var 3) e_int) a_nil)) (fun _ _ _ _ _ => (gv_name 6 sc_plane_by.nd)) (fun _ _ _ _ _ => ts_nil) (fun _ _ _ _ _ => (e_binL o_rep (EOk.fz (by decide) (e_lst (a_cons e_int a_nil))) (e_bin o_add (e_var 4) e_int)))) (ss_cons (s_for (passes_of rfl) rfl (i_seq (e_var 0)) (g_tup 2 rfl (gs_cons (g_name 1 sc_plane_by.nd) (gs_cons (g_name 2 sc_plane_by.nd) gs_nil))) (ss_one (s_asg (e_bin o_add (e_ixM 5 rfl (e_ix (e_var 2) e_int) (e_ix (e_var 2) e_int)) (e_var 1)) (g_ixM 5 rfl (e_ix (e_var 2) e_int) (e_ix (e_var 2) e_int))))) (ss_freeze 5 (ss_one (s_ret (e_fn F_trimmed_plane gd (hr.mono (by decide)) b_trimmed_plane (takes_of rfl rfl rfl rfl) m_trimmed_plane U_trimmed_plane.kp (a_cons (EOk.fz (by decide) (e_comp (.inl rfl) rfl sc_plane_by.nd (own := [("line", 7)]) rfl rfl (blk_ok (N := N_plane_by) (sc := defScope s_plane_by) (by decide +kernel)) (i_seq (e_var 5)) (fun _ _ _ _ _ => (gv_name 7 sc_plane_by.nd)) (fun _ _ _ _ _ => ts_nil) (fun _ _ _ _ _ => (e_fn F_trimmed gd (hr.mono (by decide)) b_trimmed takes0 m_trimmed U_trimmed.kp (a_cons (e_var 7) a_nil) len_trimmed)))) a_nil) len_trimmed_plane)))))))
end
end C95
set_option maxHeartbeats 4000000
namespace C95
open PySem PySem.Spec L2 De
section
variable {P : Program} {w : World} {K : PySem.W.Frag} {mg : Str → Option Value} {base : Heap} {xt : Nat → Addr × Str}
abbrev N_straight_numbers : List Str := ["plane", "lines", "line"]
theorem sc_straight_numbers : FnScope ["plane", "lines", "line"] ["plane"] (defScope s_straight_numbers) := ⟨rfl, rfl, rfl, by decide +kernel, rfl, by decide +kernel, by decide +kernel⟩
theorem ok_straight_numbers (q : Fc w K mg) : Pm P w K mg base xt 1 "straight_numbers" s_straight_numbers ["plane"] (df0 .im) f_straight_numbers := by
  obtain ⟨fd, F⟩ := fd_straight_numbers q
  refine ⟨fd, F, FunD.bindsN F fun _ _ _ _ _ _ us hl => match us, hl with | [_], _ => rfl, gg_straight_numbers q, ?_⟩
  exact fnD_of (k := 0) [.im, .im, .im] [.im, .im, .im] F sc_straight_numbers fun cdv A outer s H E gd hr =>
    (ss_cons (s_set 1 sc_straight_numbers.nd (e_bin o_add (EOk.fz (by decide) (e_comp (.inl rfl) rfl sc_straight_numbers.nd (own := [("line", 2)]) rfl rfl (blk_ok (N := N_straight_numbers) (sc := defScope s_straight_numbers) (by decide +kernel)) (i_seq (e_var 0)) (fun _ _ _ _ _ => (gv_name 2 sc_straight_numbers.nd)) (fun _ _ _ _ _ => ts_nil) (fun _ _ _ _ _ => (e_bin o_add (EOk.fz (by decide) (e_callTyL c_list (gf_list q) rfl (a_cons (e_var 2) a_nil))) (EOk.fz (by decide) (e_lst (a_cons e_int (a_cons e_int a_nil)))))))) (EOk.fz (by decide) (e_lst (a_cons (EOk.fz (by decide) (e_lst (a_cons e_int (a_cons e_int a_nil)))) (a_cons (EOk.fz (by decide) (e_lst (a_cons e_int (a_cons e_int a_nil)))) a_nil)))))) (ss_one (s_ret (EOk.fz (by decide) (e_lst (a_cons (e_ix (e_ix (e_var 1) e_int) e_int) (a_cons (e_ix (e_ix (e_var 1) e_int) e_int) (a_cons (e_ix (e_ix (e_var 1) e_int) e_int) a_nil))))))))
abbrev N_told_by : List Str := ["text", "kind"]
theorem sc_told_by : FnScope ["text", "kind"] ["text", "kind"] (defScope s_told_by) := ⟨rfl, rfl, rfl, by decide +kernel, rfl, by decide +kernel, by decide +kernel⟩
theorem ok_told_by (q : Fc w K mg) : Pm P w K mg base xt 6 "told_by" s_told_by ["text", "kind"] (df0 .im) f_told_by := by
  obtain ⟨fd, F⟩ := fd_told_by q
  obtain ⟨fd_read_sums, U_read_sums, b_read_sums, m_read_sums, F_read_sums⟩ := (ok_read_sums (P := P) (base := base) (xt := xt) q).run
  refine ⟨fd, F, FunD.bindsN F fun _ _ _ _ _ _ us hl => match us, hl with | [_, _], _ => rfl, gg_told_by q, ?_⟩
  exact fnD_of (k := 5) [.im, .im] [.im, .im] F sc_told_by fun cdv A outer s H E gd hr =>
    (ss_one (s_ret (e_ix (e_fn F_read_sums gd (hr.mono (by decide)) b_read_sums (takes_of rfl rfl rfl rfl) m_read_sums U_read_sums.kp (a_cons (e_var 0) (a_cons (e_var 1) a_nil)) len_read_sums) e_int)))
abbrev N_told_line : List Str := ["text", "sums"]
theorem sc_told_line : FnScope ["text", "sums"] ["text"] (defScope s_told_line) := ⟨rfl, rfl, rfl, by decide +kernel, rfl, by decide +kernel, by decide +kernel⟩
theorem ok_told_line (q : Fc w K mg) : Pm P w K mg base xt 7 "told_line" s_told_line ["text"] (df0 .im) f_told_line := by
  obtain ⟨fd, F⟩ := fd_told_line q
  obtain ⟨fd_line_by, U_line_by, b_line_by, m_line_by, F_line_by⟩ := (ok_line_by (P := P) (base := base) (xt := xt) q).run
  obtain ⟨fd_told_by, U_told_by, b_told_by, m_told_by, F_told_by⟩ := (ok_told_by (P := P) (base := base) (xt := xt) q).run
  refine ⟨fd, F, FunD.bindsN F fun _ _ _ _ _ _ us hl => match us, hl with | [_], _ => rfl, gg_told_line q, ?_⟩
  exact fnD_of (k := 6) [.im, .im] [.im, .im] F sc_told_line fun cdv A outer s H E gd hr =>
    (ss_cons (s_set 1 sc_told_line.nd (e_fn F_told_by gd (hr.mono (by decide)) b_told_by (takes_of rfl rfl rfl rfl) m_told_by U_told_by.kp (a_cons (e_var 0) (a_cons (e_gd (gd_OF_LINE q)) a_nil)) len_told_by)) (ss_one (s_ret (e_if (t_cmp o_isN (e_var 1) e_non) e_non (e_fn F_line_by gd (hr.mono (by decide)) b_line_by (takes_of rfl rfl rfl rfl) m_line_by U_line_by.kp (a_cons (e_ix (e_var 1) e_int) a_nil) len_line_by)))))
abbrev N_told_plane : List Str := ["text", "sums"]
theorem sc_told_plane : FnScope ["text", "sums"] ["text"] (defScope s_told_plane) := ⟨rfl, rfl, rfl, by decide +kernel, rfl, by decide +kernel, by decide +kernel⟩
theorem ok_told_plane (q : Fc w K mg) : Pm P w K mg base xt 7 "told_plane" s_told_plane ["text"] (df0 .im) f_told_plane := by
  obtain ⟨fd, F⟩ := fd_told_plane q
  obtain ⟨fd_plane_by, U_plane_by, b_plane_by, m_plane_by, F_plane_by⟩ := (ok_plane_by (P := P) (base := base) (xt := xt) q).run
  obtain ⟨fd_told_by, U_told_by, b_told_by, m_told_by, F_told_by⟩ := (ok_told_by (P := P) (base := base) (xt := xt) q).run
  refine ⟨fd, F, FunD.bindsN F fun _ _ _ _ _ _ us hl => match us, hl with | [_], _ => rfl, gg_told_plane q, ?_⟩
  exact fnD_of (k := 6) [.im, .im] [.im, .im] F sc_told_plane fun cdv A outer s H E gd hr =>
    (ss_cons (s_set 1 sc_told_plane.nd (e_fn F_told_by gd (hr.mono (by decide)) b_told_by (takes_of rfl rfl rfl rfl) m_told_by U_told_by.kp (a_cons (e_var 0) (a_cons (e_gd (gd_OF_PLANE q)) a_nil)) len_told_by)) (ss_one (s_ret (e_if (t_cmp o_isN (e_var 1) e_non) e_non (e_fn F_plane_by gd (hr.mono (by decide)) b_plane_by (takes_of rfl rfl rfl rfl) m_plane_by U_plane_by.kp (a_cons (e_ix (e_var 1) e_int) a_nil) len_plane_by)))))
abbrev N_told_lines : List Str := ["text", "sums", "terms"]
theorem sc_told_lines : FnScope ["text", "sums", "terms"] ["text"] (defScope s_told_lines) := ⟨rfl, rfl, rfl, by decide +kernel, rfl, by decide +kernel, by decide +kernel⟩
theorem ok_told_lines (q : Fc w K mg) : Pm P w K mg base xt 7 "told_lines" s_told_lines ["text"] (df0 .im) f_told_lines := by
  obtain ⟨fd, F⟩ := fd_told_lines q
  obtain ⟨fd_line_by, U_line_by, b_line_by, m_line_by, F_line_by⟩ := (ok_line_by (P := P) (base := base) (xt := xt) q).run
  obtain ⟨fd_told_by, U_told_by, b_told_by, m_told_by, F_told_by⟩ := (ok_told_by (P := P) (base := base) (xt := xt) q).run
  refine ⟨fd, F, FunD.bindsN F fun _ _ _ _ _ _ us hl => match us, hl with | [_], _ => rfl, gg_told_lines q, ?_⟩
  exact fnD_of (k := 6) [.im, .im, .im] [.im, .im, .im] F sc_told_lines fun cdv A outer s H E gd hr =>
    (ss_cons (s_set 1 sc_told_lines.nd (e_fn F_told_by gd (hr.mono (by decide)) b_told_by (takes_of rfl rfl rfl rfl) m_told_by U_told_by.kp (a_cons (e_var 0) (a_cons (e_gd (gd_OF_CURVE q)) a_nil)) len_told_by)) (ss_one (s_ret (e_if (t_cmp o_isN (e_var 1) e_non) e_non (EOk.fz (by decide) (e_comp (.inl rfl) rfl sc_told_lines.nd (own := [("terms", 2)]) rfl rfl (blk_ok (N := N_told_lines) (sc := defScope s_told_lines) (by decide +kernel)) (i_seq (e_var 1)) (fun _ _ _ _ _ => (gv_name 2 sc_told_lines.nd)) (fun _ _ _ _ _ => ts_nil) (fun _ _ _ _ _ => (e_fn F_line_by gd (hr.mono (by decide)) b_line_by takes0 m_line_by U_line_by.kp (a_cons (e_var 2) a_nil) len_line_by))))))))
abbrev N_told_numbers : List Str := ["text", "sums"]
theorem sc_told_numbers : FnScope ["text", "sums"] ["text"] (defScope s_told_numbers) := ⟨rfl, rfl, rfl, by decide +kernel, rfl, by decide +kernel, by decide +kernel⟩
theorem ok_told_numbers (q : Fc w K mg) : Pm P w K mg base xt 7 "told_numbers" s_told_numbers ["text"] (df0 .im) f_told_numbers := by
  obtain ⟨fd, F⟩ := fd_told_numbers q
  obtain ⟨fd_plane_by, U_plane_by, b_plane_by, m_plane_by, F_plane_by⟩ := (ok_plane_by (P := P) (base := base) (xt := xt) q).run
  obtain ⟨fd_straight_numbers, U_straight_numbers, b_straight_numbers, m_straight_numbers, F_straight_numbers⟩ := (ok_straight_numbers (P := P) (base := base) (xt := xt) q).run
  obtain ⟨fd_told_by, U_told_by, b_told_by, m_told_by, F_told_by⟩ := (ok_told_by (P := P) (base := base) (xt := xt) q).run
  refine ⟨fd, F, FunD.bindsN F fun _ _ _ _ _ _ us hl => match us, hl with | [_], _ => rfl, gg_told_numbers q, ?_⟩
  exact fnD_of (k := 6) [.im, .im] [.im, .im] F sc_told_numbers fun cdv A outer s H E gd hr =>
    (ss_cons (s_set 1 sc_told_numbers.nd (e_fn F_told_by gd (hr.mono (by decide)) b_told_by (takes_of rfl rfl rfl rfl) m_told_by U_told_by.kp (a_cons (e_var 0) (a_cons (e_gd (gd_OF_CHANGE q)) a_nil)) len_told_by)) (ss_one (s_ret (e_if (t_cmp o_isN (e_var 1) e_non) e_non (e_bin o_add (e_fn F_straight_numbers gd (hr.mono (by decide)) b_straight_numbers (takes_of rfl rfl rfl rfl) m_straight_numbers U_straight_numbers.kp (a_cons (e_fn F_plane_by gd (hr.mono (by decide)) b_plane_by (takes_of rfl rfl rfl rfl) m_plane_by U_plane_by.kp (a_cons (e_ix (e_var 1) e_int) a_nil) len_plane_by) a_nil) len_straight_numbers) (e_fn F_straight_numbers gd (hr.mono (by decide)) b_straight_numbers (takes_of rfl rfl rfl rfl) m_straight_numbers U_straight_numbers.kp (a_cons (e_fn F_plane_by gd (hr.mono (by decide)) b_plane_by (takes_of rfl rfl rfl rfl) m_plane_by U_plane_by.kp (a_cons (e_ix (e_var 1) e_int) a_nil) len_plane_by) a_nil) len_straight_numbers))))))
abbrev N_is_name : List Str := ["value", "sign"]
theorem sc_is_name : FnScope ["value", "sign"] ["value"] (defScope s_is_name) := ⟨rfl, rfl, rfl, by decide +kernel, rfl, by decide +kernel, by decide +kernel⟩
theorem ok_is_name (q : Fc w K mg) : Pm P w K mg base xt 1 "is_name" s_is_name ["value"] (df0 .im) f_is_name := by
  obtain ⟨fd, F⟩ := fd_is_name q
  refine ⟨fd, F, FunD.bindsN F fun _ _ _ _ _ _ us hl => match us, hl with | [_], _ => rfl, gg_is_name q, ?_⟩
  exact fnD_of (k := 0) [.im, .im] [.im, .im] F sc_is_name fun cdv A outer s H E gd hr =>
    (ss_cons (s_if (t_w (w_or (t_not (t_val (e_isi (e_var 0) (gf_isinstance q) (gf_str q) rfl))) (w_or1 (t_not (t_chain o_le o_le e_int (e_callB c_len (gf_len q) rfl (a_cons (e_var 0) a_nil)) (e_gint (gi_MOST_NAME q))))))) (ss_one (s_ret e_bl)) ss_nil) (ss_one (s_ret (e_and (e_cmp o_in (e_ix (e_var 0) e_int) (e_gstr (gs_LETTERS q))) (e_one (e_callB (CallS.d (cs_all rfl)) (gf_all q) rfl (a_cons (EOk.fz (by decide) (e_comp (.inl rfl) rfl sc_is_name.nd (own := [("sign", 1)]) rfl rfl (blk_ok (N := N_is_name) (sc := defScope s_is_name) (by decide +kernel)) (i_seq (e_var 0)) (fun _ _ _ _ _ => (gv_name 1 sc_is_name.nd)) (fun _ _ _ _ _ => ts_nil) (fun _ _ _ _ _ => (e_cmp o_in (e_var 1) (e_gstr (gs_SIGNS_commands q)))))) a_nil)))))))
abbrev N_figures_in : List Str := ["word", "sign"]
theorem sc_figures_in : FnScope ["word", "sign"] ["word"] (defScope s_figures_in) := ⟨rfl, rfl, rfl, by decide +kernel, rfl, by decide +kernel, by decide +kernel⟩
theorem ok_figures_in (q : Fc w K mg) : Pm P w K mg base xt 1 "figures_in" s_figures_in ["word"] (df0 .im) f_figures_in := by
  obtain ⟨fd, F⟩ := fd_figures_in q
  refine ⟨fd, F, FunD.bindsN F fun _ _ _ _ _ _ us hl => match us, hl with | [_], _ => rfl, gg_figures_in q, ?_⟩
  exact fnD_of (k := 0) [.im, .im] [.im, .im] F sc_figures_in fun cdv A outer s H E gd hr =>
    (ss_cons (s_if (t_w (w_or (t_cmp (o_eq hr.units) (e_var 0) e_str) (w_or (t_val (e_callB (CallS.d (cs_any rfl)) (gf_any q) rfl (a_cons (EOk.fz (by decide) (e_comp (.inl rfl) rfl sc_figures_in.nd (own := [("sign", 1)]) rfl rfl (blk_ok (N := N_figures_in) (sc := defScope s_figures_in) (by decide +kernel)) (i_seq (e_var 0)) (fun _ _ _ _ _ => (gv_name 1 sc_figures_in.nd)) (fun _ _ _ _ _ => ts_nil) (fun _ _ _ _ _ => (e_cmp o_notIn (e_var 1) (e_gstr (gs_FIGURES_commands q)))))) a_nil))) (w_or1 (t_w (w_and (t_cmp (o_eq hr.units) (e_ix (e_var 0) e_int) e_str) (w_and1 (t_cmp o_gt (e_callB c_len (gf_len q) rfl (a_cons (e_var 0) a_nil)) e_int)))))))) (ss_one (s_ret e_non)) ss_nil) (ss_one (s_ret (e_if (t_cmp o_le (e_callB c_len (gf_len q) rfl (a_cons (e_var 0) a_nil)) (e_gint (gi_MOST_FIGURES_commands q))) (e_callTy c_int (gf_int q) rfl (a_cons (e_var 0) a_nil)) e_non))))
abbrev N_count_in : List Str := ["word"]
theorem sc_count_in : FnScope ["word"] ["word"] (defScope s_count_in) := ⟨rfl, rfl, rfl, by decide +kernel, rfl, by decide +kernel, by decide +kernel⟩
theorem ok_count_in (q : Fc w K mg) : Pm P w K mg base xt 2 "count_in" s_count_in ["word"] (df0 .im) f_count_in := by
  obtain ⟨fd, F⟩ := fd_count_in q
  obtain ⟨fd_figures_in, U_figures_in, b_figures_in, m_figures_in, F_figures_in⟩ := (ok_figures_in (P := P) (base := base) (xt := xt) q).run
  refine ⟨fd, F, FunD.bindsN F fun _ _ _ _ _ _ us hl => match us, hl with | [_], _ => rfl, gg_count_in q, ?_⟩
  exact fnD_of (k := 1) [.im] [.im] F sc_count_in fun cdv A outer s H E gd hr =>
    (ss_one (s_ret (e_if (t_cmp o_le (e_callB c_len (gf_len q) rfl (a_cons (e_var 0) a_nil)) (e_gint (gi_MOST_COUNT q))) (e_fn F_figures_in gd (hr.mono (by decide)) b_figures_in (takes_of rfl rfl rfl rfl) m_figures_in U_figures_in.kp (a_cons (e_var 0) a_nil) len_figures_in) e_non)))
abbrev N_short_number : List Str := ["word", "found"]
theorem sc_short_number : FnScope ["word", "found"] ["word"] (defScope s_short_number) := ⟨rfl, rfl, rfl, by decide +kernel, rfl, by decide +kernel, by decide +kernel⟩
theorem ok_short_number (q : Fc w K mg) : Pm P w K mg base xt 2 "short_number" s_short_number ["word"] (df0 .im) f_short_number := by
  obtain ⟨fd, F⟩ := fd_short_number q
  obtain ⟨fd_figures_in, U_figures_in, b_figures_in, m_figures_in, F_figures_in⟩ := (ok_figures_in (P := P) (base := base) (xt := xt) q).run
  refine ⟨fd, F, FunD.bindsN F fun _ _ _ _ _ _ us hl => match us, hl with | [_], _ => rfl, gg_short_number q, ?_⟩
  exact fnD_of (k := 1) [.im, .im] [.im, .im] F sc_short_number fun cdv A outer s H E gd hr =>
    (ss_cons (s_if (t_not (t_val (e_mt PySem.F.slot_str_startswith PySem.F.type_str_startswith m_starts (e_var 0) (a_cons e_str a_nil)))) (ss_one (s_ret (e_fn F_figures_in gd (hr.mono (by decide)) b_figures_in (takes_of rfl rfl rfl rfl) m_figures_in U_figures_in.kp (a_cons (e_var 0) a_nil) len_figures_in))) ss_nil) (ss_cons (s_set 1 sc_short_number.nd (e_fn F_figures_in gd (hr.mono (by decide)) b_figures_in (takes_of rfl rfl rfl rfl) m_figures_in U_figures_in.kp (a_cons (e_sl (e_var 0) (o_some e_int) o_none) a_nil) len_figures_in)) (ss_one (s_ret (e_if (t_w (w_and (t_cmp o_isNotN (e_var 1) e_non) (w_and1 (t_cmp o_gt (e_var 1) e_int)))) (e_bin o_sub e_int (e_var 1)) e_non)))))
end
end C95
set_option maxHeartbeats 4000000
namespace C95
open PySem PySem.Spec L2 De
section
variable {P : Program} {w : World} {K : PySem.W.Frag} {mg : Str → Option Value} {base : Heap} {xt : Nat → Addr × Str}
abbrev N_has_long_numeral : List Str := ["word", "many", "sign"]
theorem sc_has_long_numeral : FnScope ["word", "many", "sign"] ["word"] (defScope s_has_long_numeral) := ⟨rfl, rfl, rfl, by decide +kernel, rfl, by decide +kernel, by decide +kernel⟩
theorem ok_has_long_numeral (q : Fc w K mg) : Pm P w K mg base xt 1 "has_long_numeral" s_has_long_numeral ["word"] (df0 .im) f_has_long_numeral := by
  obtain ⟨fd, F⟩ := fd_has_long_numeral q
  refine ⟨fd, F, FunD.bindsN F fun _ _ _ _ _ _ us hl => match us, hl with | [_], _ => rfl, gg_has_long_numeral q, ?_⟩
  exact fnD_of (k := 0) [.im, .im, .im] [.im, .im, .im] F sc_has_long_numeral fun cdv A outer s H E gd hr =>
    (ss_cons (s_set 1 sc_has_long_numeral.nd e_int) (ss_cons (s_for (passes_of rfl) rfl (i_seq (e_var 0)) (g_name 2 sc_has_long_numeral.nd) (ss_cons (s_set 1 sc_has_long_numeral.nd (e_if (t_cmp o_in (e_var 2) (e_gstr (gs_FIGURES_commands q))) (e_bin o_add (e_var 1) e_int) e_int)) (ss_one (s_if (t_cmp o_gt (e_var 1) (e_gint (gi_MOST_FIGURES_commands q))) (ss_one (s_ret e_bl)) ss_nil)))) (ss_one (s_ret e_bl))))
abbrev N_text_in : List Str := ["kind", "word"]
theorem sc_text_in : FnScope ["kind", "word"] ["kind", "word"] (defScope s_text_in) := ⟨rfl, rfl, rfl, by decide +kernel, rfl, by decide +kernel, by decide +kernel⟩
theorem ok_text_in (q : Fc w K mg) : Pm P w K mg base xt 8 "text_in" s_text_in ["kind", "word"] (df0 .im) f_text_in := by
  obtain ⟨fd, F⟩ := fd_text_in q
  obtain ⟨fd_told_line, U_told_line, b_told_line, m_told_line, F_told_line⟩ := (ok_told_line (P := P) (base := base) (xt := xt) q).run
  obtain ⟨fd_told_plane, U_told_plane, b_told_plane, m_told_plane, F_told_plane⟩ := (ok_told_plane (P := P) (base := base) (xt := xt) q).run
  obtain ⟨fd_told_lines, U_told_lines, b_told_lines, m_told_lines, F_told_lines⟩ := (ok_told_lines (P := P) (base := base) (xt := xt) q).run
  obtain ⟨fd_told_numbers, U_told_numbers, b_told_numbers, m_told_numbers, F_told_numbers⟩ := (ok_told_numbers (P := P) (base := base) (xt := xt) q).run
  obtain ⟨fd_has_long_numeral, U_has_long_numeral, b_has_long_numeral, m_has_long_numeral, F_has_long_numeral⟩ := (ok_has_long_numeral (P := P) (base := base) (xt := xt) q).run
  refine ⟨fd, F, FunD.bindsN F fun _ _ _ _ _ _ us hl => match us, hl with | [_, _], _ => rfl, gg_text_in q, ?_⟩
  exact fnD_of (k := 7) [.im, .im] [.im, .im] F sc_text_in fun cdv A outer s H E gd hr =>
    (ss_cons (s_if (t_w (w_or (t_cmp o_gt (e_callB c_len (gf_len q) rfl (a_cons (e_var 1) a_nil)) (e_gint (gi_MOST_TEXT q))) (w_or1 (t_val (e_fn F_has_long_numeral gd (hr.mono (by decide)) b_has_long_numeral (takes_of rfl rfl rfl rfl) m_has_long_numeral U_has_long_numeral.kp (a_cons (e_var 1) a_nil) len_has_long_numeral))))) (ss_one (s_ret e_non)) ss_nil) (ss_cons (s_if (t_cmp (o_eq hr.units) (e_var 0) (e_gstr (gs_PLANE_TEXT q))) (ss_one (s_ret (e_fn F_told_plane gd (hr.mono (by decide)) b_told_plane (takes_of rfl rfl rfl rfl) m_told_plane U_told_plane.kp (a_cons (e_var 1) a_nil) len_told_plane))) ss_nil) (ss_cons (s_if (t_cmp (o_eq hr.units) (e_var 0) (e_gstr (gs_LINE_TEXT q))) (ss_one (s_ret (e_fn F_told_line gd (hr.mono (by decide)) b_told_line (takes_of rfl rfl rfl rfl) m_told_line U_told_line.kp (a_cons (e_var 1) a_nil) len_told_line))) ss_nil) (ss_one (s_ret (e_if (t_cmp (o_eq hr.units) (e_var 0) (e_gstr (gs_CHANGE_TEXT q))) (e_fn F_told_numbers gd (hr.mono (by decide)) b_told_numbers (takes_of rfl rfl rfl rfl) m_told_numbers U_told_numbers.kp (a_cons (e_var 1) a_nil) len_told_numbers) (e_fn F_told_lines gd (hr.mono (by decide)) b_told_lines (takes_of rfl rfl rfl rfl) m_told_lines U_told_lines.kp (a_cons (e_var 1) a_nil) len_told_lines)))))))
abbrev N_told_of_kind : List Str := ["kind", "word"]
theorem sc_told_of_kind : FnScope ["kind", "word"] ["kind", "word"] (defScope s_told_of_kind) := ⟨rfl, rfl, rfl, by decide +kernel, rfl, by decide +kernel, by decide +kernel⟩
theorem ok_told_of_kind (q : Fc w K mg) : Pm P w K mg base xt 9 "told_of_kind" s_told_of_kind ["kind", "word"] (df0 .im) f_told_of_kind := by
  obtain ⟨fd, F⟩ := fd_told_of_kind q
  obtain ⟨fd_is_name, U_is_name, b_is_name, m_is_name, F_is_name⟩ := (ok_is_name (P := P) (base := base) (xt := xt) q).run
  obtain ⟨fd_count_in, U_count_in, b_count_in, m_count_in, F_count_in⟩ := (ok_count_in (P := P) (base := base) (xt := xt) q).run
  obtain ⟨fd_short_number, U_short_number, b_short_number, m_short_number, F_short_number⟩ := (ok_short_number (P := P) (base := base) (xt := xt) q).run
  obtain ⟨fd_text_in, U_text_in, b_text_in, m_text_in, F_text_in⟩ := (ok_text_in (P := P) (base := base) (xt := xt) q).run
  refine ⟨fd, F, FunD.bindsN F fun _ _ _ _ _ _ us hl => match us, hl with | [_, _], _ => rfl, gg_told_of_kind q, ?_⟩
  exact fnD_of (k := 8) [.im, .im] [.im, .im] F sc_told_of_kind fun cdv A outer s H E gd hr =>
    (ss_cons (s_if (t_cmp o_in (e_var 0) (e_gd (gd_NAMES q))) (ss_one (s_ret (e_if (t_val (e_fn F_is_name gd (hr.mono (by decide)) b_is_name (takes_of rfl rfl rfl rfl) m_is_name U_is_name.kp (a_cons (e_var 1) a_nil) len_is_name)) (e_var 1) e_non))) ss_nil) (ss_cons (s_if (t_cmp (o_eq hr.units) (e_var 0) e_str) (ss_one (s_ret (e_fn F_count_in gd (hr.mono (by decide)) b_count_in (takes_of rfl rfl rfl rfl) m_count_in U_count_in.kp (a_cons (e_var 1) a_nil) len_count_in))) ss_nil) (ss_one (s_ret (e_if (t_cmp (o_eq hr.units) (e_var 0) e_str) (e_fn F_short_number gd (hr.mono (by decide)) b_short_number (takes_of rfl rfl rfl rfl) m_short_number U_short_number.kp (a_cons (e_var 1) a_nil) len_short_number) (e_fn F_text_in gd (hr.mono (by decide)) b_text_in (takes_of rfl rfl rfl rfl) m_text_in U_text_in.kp (a_cons (e_var 0) (a_cons (e_var 1) a_nil)) len_text_in))))))
abbrev N_kinds_of : List Str := ["words", "word"]
theorem sc_kinds_of : FnScope ["words", "word"] ["words"] (defScope s_kinds_of) := ⟨rfl, rfl, rfl, by decide +kernel, rfl, by decide +kernel, by decide +kernel⟩
theorem ok_kinds_of (q : Fc w K mg) : Pm P w K mg base xt 1 "kinds_of" s_kinds_of ["words"] (df0 .im) f_kinds_of := by
  obtain ⟨fd, F⟩ := fd_kinds_of q
  refine ⟨fd, F, FunD.bindsN F fun _ _ _ _ _ _ us hl => match us, hl with | [_], _ => rfl, gg_kinds_of q, ?_⟩
  exact fnD_of (k := 0) [.im, .im] [.im, .im] F sc_kinds_of fun cdv A outer s H E gd hr =>
    (ss_cons (s_set 1 sc_kinds_of.nd (e_ix (e_var 0) e_int)) (ss_cons (s_if (t_cmp (o_eq hr.units) (e_var 1) e_str) (ss_one (s_ret (e_if (t_w (w_and (t_cmp o_gt (e_callB c_len (gf_len q) rfl (a_cons (e_var 0) a_nil)) e_int) (w_and1 (t_kin (kt_CLAIMS q) (e_ix (e_var 0) e_int))))) (e_bin o_add (e_tup (a_cons (e_gstr (gs_LABEL q)) (a_cons e_str a_nil))) (e_kix (kt_CLAIMS q) (e_ix (e_var 0) e_int))) e_non))) ss_nil) (ss_cons (s_if (t_kin (kt_DEEDS q) (e_var 1)) (ss_one (s_ret (e_kix (kt_DEEDS q) (e_var 1)))) ss_nil) (ss_one (s_ret (e_if (t_kin (kt_QUESTIONS q) (e_var 1)) (e_kix (kt_QUESTIONS q) (e_var 1)) e_non))))))
abbrev N_command_parts : List Str := ["value", "words", "kinds", "found", "kind", "word", "one"]
theorem sc_command_parts : FnScope ["value", "words", "kinds", "found", "kind", "word", "one"] ["value"] (defScope s_command_parts) := ⟨rfl, rfl, rfl, by decide +kernel, rfl, by decide +kernel, by decide +kernel⟩
theorem ok_command_parts (q : Fc w K mg) : Pm P w K mg base xt 10 "command_parts" s_command_parts ["value"] (df0 .im) f_command_parts := by
  obtain ⟨fd, F⟩ := fd_command_parts q
  obtain ⟨fd_told_of_kind, U_told_of_kind, b_told_of_kind, m_told_of_kind, F_told_of_kind⟩ := (ok_told_of_kind (P := P) (base := base) (xt := xt) q).run
  obtain ⟨fd_kinds_of, U_kinds_of, b_kinds_of, m_kinds_of, F_kinds_of⟩ := (ok_kinds_of (P := P) (base := base) (xt := xt) q).run
  refine ⟨fd, F, FunD.bindsN F fun _ _ _ _ _ _ us hl => match us, hl with | [_], _ => rfl, gg_command_parts q, ?_⟩
  exact fnD_of (k := 9) [.im, .im, .im, .im, .im, .im, .im] [.im, .im, .im, .im, .im, .im, .im] F sc_command_parts fun cdv A outer s H E gd hr =>
    (ss_cons (s_if (t_not (t_val (e_isi (e_var 0) (gf_isinstance q) (gf_str q) rfl))) (ss_one (s_ret e_non)) ss_nil) (ss_cons (s_set 1 sc_command_parts.nd (EOk.fz (by decide) (e_mtL PySem.F.slot_str_split PySem.F.type_str_split m_split (e_var 0) (a_cons e_str a_nil)))) (ss_cons (s_set 2 sc_command_parts.nd (e_fn F_kinds_of gd (hr.mono (by decide)) b_kinds_of (takes_of rfl rfl rfl rfl) m_kinds_of U_kinds_of.kp (a_cons (e_var 1) a_nil) len_kinds_of)) (ss_cons (s_if (t_w (w_or (t_cmp o_isN (e_var 2) e_non) (w_or1 (t_cmp (o_ne hr.units) (e_callB c_len (gf_len q) rfl (a_cons (e_var 2) a_nil)) (e_bin o_sub (e_callB c_len (gf_len q) rfl (a_cons (e_var 1) a_nil)) e_int))))) (ss_one (s_ret e_non)) ss_nil) (ss_cons (s_set 3 sc_command_parts.nd (e_lst a_nil)) (ss_cons (s_for (passes_of rfl) rfl (i_zipM (gf_zip q) (a_cons (e_var 2) (a_cons (e_sl (e_var 1) (o_some e_int) o_none) a_nil))) (g_tup 2 rfl (gs_cons (g_name 4 sc_command_parts.nd) (gs_cons (g_name 5 sc_command_parts.nd) gs_nil))) (ss_one (s_app 3 rfl (e_if (t_cmp (o_eq hr.units) (e_var 4) e_str) (e_var 5) (e_fn F_told_of_kind gd (hr.mono (by decide)) b_told_of_kind (takes_of rfl rfl rfl rfl) m_told_of_kind U_told_of_kind.kp (a_cons (e_var 4) (a_cons (e_var 5) a_nil)) len_told_of_kind))))) (ss_freeze 3 (ss_one (s_ret (e_if (t_val (e_callB (CallS.d (cs_any rfl)) (gf_any q) rfl (a_cons (EOk.fz (by decide) (e_comp (.inl rfl) rfl sc_command_parts.nd (own := [("one", 6)]) rfl rfl (blk_ok (N := N_command_parts) (sc := defScope s_command_parts) (by decide +kernel)) (i_seq (e_var 3)) (fun _ _ _ _ _ => (gv_name 6 sc_command_parts.nd)) (fun _ _ _ _ _ => ts_nil) (fun _ _ _ _ _ => (e_cmp o_isN (e_var 6) e_non)))) a_nil))) e_non (e_tup (a_cons (e_ix (e_var 1) e_int) (a_cons (e_var 3) a_nil)))))))))))))
abbrev N_is_command : List Str := ["value"]
theorem sc_is_command : FnScope ["value"] ["value"] (defScope s_is_command) := ⟨rfl, rfl, rfl, by decide +kernel, rfl, by decide +kernel, by decide +kernel⟩
theorem ok_is_command (q : Fc w K mg) : Pm P w K mg base xt 11 "is_command" s_is_command ["value"] (df0 .im) f_is_command := by
  obtain ⟨fd, F⟩ := fd_is_command q
  obtain ⟨fd_command_parts, U_command_parts, b_command_parts, m_command_parts, F_command_parts⟩ := (ok_command_parts (P := P) (base := base) (xt := xt) q).run
  refine ⟨fd, F, FunD.bindsN F fun _ _ _ _ _ _ us hl => match us, hl with | [_], _ => rfl, gg_is_command q, ?_⟩
  exact fnD_of (k := 10) [.im] [.im] F sc_is_command fun cdv A outer s H E gd hr =>
    (ss_one (s_ret (e_cmp o_isNotN (e_fn F_command_parts gd (hr.mono (by decide)) b_command_parts (takes_of rfl rfl rfl rfl) m_command_parts U_command_parts.kp (a_cons (e_var 0) a_nil) len_command_parts) e_non)))
theorem kw_is_command {f : Addr} {fd : FuncData} (U : FunD K "is_command" "is_command" (defArgs s_is_command) (defBody s_is_command) (defScope s_is_command) [] [] f fd) : KwB K fd ["value"] ["value"] id id := FunD.kwB U fun _ _ _ _ _ _ us hl => match us, hl with | [_], _ => rfl
abbrev N_is_deed : List Str := ["value", "found"]
theorem sc_is_deed : FnScope ["value", "found"] ["value"] (defScope s_is_deed) := ⟨rfl, rfl, rfl, by decide +kernel, rfl, by decide +kernel, by decide +kernel⟩
theorem ok_is_deed (q : Fc w K mg) : Pm P w K mg base xt 11 "is_deed" s_is_deed ["value"] (df0 .im) f_is_deed := by
  obtain ⟨fd, F⟩ := fd_is_deed q
  obtain ⟨fd_command_parts, U_command_parts, b_command_parts, m_command_parts, F_command_parts⟩ := (ok_command_parts (P := P) (base := base) (xt := xt) q).run
  refine ⟨fd, F, FunD.bindsN F fun _ _ _ _ _ _ us hl => match us, hl with | [_], _ => rfl, gg_is_deed q, ?_⟩
  exact fnD_of (k := 10) [.im, .im] [.im, .im] F sc_is_deed fun cdv A outer s H E gd hr =>
    (ss_cons (s_set 1 sc_is_deed.nd (e_fn F_command_parts gd (hr.mono (by decide)) b_command_parts (takes_of rfl rfl rfl rfl) m_command_parts U_command_parts.kp (a_cons (e_var 0) a_nil) len_command_parts)) (ss_one (s_ret (e_and (e_cmp o_isNotN (e_var 1) e_non) (e_one (e_kin (kt_DEEDS q) (e_ix (e_var 1) e_int)))))))
theorem kw_is_deed {f : Addr} {fd : FuncData} (U : FunD K "is_deed" "is_deed" (defArgs s_is_deed) (defBody s_is_deed) (defScope s_is_deed) [] [] f fd) : KwB K fd ["value"] ["value"] id id := FunD.kwB U fun _ _ _ _ _ _ us hl => match us, hl with | [_], _ => rfl
abbrev N__law_pot : List Str := ["script", "k", "cell"]
theorem sc__law_pot : FnScope ["script", "k", "cell"] ["script", "k"] (defScope s__law_pot) := ⟨rfl, rfl, rfl, by decide +kernel, rfl, by decide +kernel, by decide +kernel⟩
theorem ok__law_pot (q : Fc w K mg) : Pm P w K mg base xt 1 "_law_pot" s__law_pot ["script", "k"] (⟨false, [.sc], [.sc], .ml⟩) f__law_pot := by
  obtain ⟨fd, F⟩ := fd__law_pot q
  refine ⟨fd, F, FunD.bindsN F fun _ _ _ _ _ _ us hl => match us, hl with | [_, _], _ => rfl, gg__law_pot q, ?_⟩
  exact fnD_of (k := 0) [.sc, .im, .im] [.sc, .im, .im] F sc__law_pot fun cdv A outer s H E gd hr =>
    (ss_cons (s_set 2 sc__law_pot.nd (e_if (t_cmp o_lt (e_var 1) (e_callS 0 cs_len rfl (gf_len q) rfl)) (e_callB c_abs (gf_abs q) rfl (a_cons (e_ixS 0 rfl (e_var 1)) a_nil)) (e_bin o_add (e_bin o_mul e_int (e_var 1)) e_int))) (ss_one (s_ret (e_lst (a_cons (e_callB (c_max2 rfl) (gf_max q) rfl (a_cons e_int (a_cons (e_bin o_sub (e_var 2) (e_bin o_pow e_int e_int)) a_nil))) (a_cons (e_bin o_add (e_bin o_mod (e_callTy c_int (gf_int q) rfl (a_cons (e_bin o_add (e_bin o_add (e_bin o_mul (e_bin o_mod (e_callTy c_int (gf_int q) rfl (a_cons (e_var 2) a_nil)) e_int) e_int) (e_bin o_mul e_int (e_var 1))) e_int) a_nil)) e_int) e_int) a_nil))))))
abbrev N__law_draw : List Str := ["pot", "many", "digit"]
theorem sc__law_draw : FnScope ["pot", "many", "digit"] ["pot", "many"] (defScope s__law_draw) := ⟨rfl, rfl, rfl, by decide +kernel, rfl, by decide +kernel, by decide +kernel⟩
theorem ok__law_draw (q : Fc w K mg) : Pm P w K mg base xt 1 "_law_draw" s__law_draw ["pot", "many"] (⟨true, [.ml], [.ml], .im⟩) f__law_draw := by
  obtain ⟨fd, F⟩ := fd__law_draw q
  refine ⟨fd, F, FunD.bindsN F fun _ _ _ _ _ _ us hl => match us, hl with | [_, _], _ => rfl, gg__law_draw q, ?_⟩
  exact fnD_of (k := 0) [.ml, .im, .im] [.ml, .im, .im] F sc__law_draw fun cdv A outer s H E gd hr =>
    (ss_cons (s_if (t_cmp o_gt (e_ixS 0 rfl e_int) e_int) (ss_cons (s_asg (e_callB c_divmod (gf_divmod q) rfl (a_cons (e_ixS 0 rfl e_int) (a_cons (e_var 1) a_nil))) (g_tup 2 rfl (gs_cons (g_ix 0 rfl e_int) (gs_cons (g_name 2 sc__law_draw.nd) gs_nil)))) (ss_one (s_ret (e_var 2)))) ss_nil) (ss_cons (s_asg (e_bin o_mod (e_callTy c_int (gf_int q) rfl (a_cons (e_bin o_add (e_bin o_mul (e_ixS 0 rfl e_int) e_int) e_int) a_nil)) e_int) (g_ix 0 rfl e_int)) (ss_one (s_ret (e_bin o_mod (e_callTy c_int (gf_int q) rfl (a_cons (e_bin o_div (e_bin o_mod (e_callTy c_int (gf_int q) rfl (a_cons (e_bin o_mul (e_ixS 0 rfl e_int) (e_ixS 0 rfl e_int)) a_nil)) e_int) e_int) a_nil)) (e_var 1))))))
abbrev N__law_pick : List Str := ["pot", "some"]
theorem sc__law_pick : FnScope ["pot", "some"] ["pot", "some"] (defScope s__law_pick) := ⟨rfl, rfl, rfl, by decide +kernel, rfl, by decide +kernel, by decide +kernel⟩
theorem ok__law_pick (q : Fc w K mg) : Pm P w K mg base xt 2 "_law_pick" s__law_pick ["pot", "some"] (⟨true, [.ml], [.ml], .im⟩) f__law_pick := by
  obtain ⟨fd, F⟩ := fd__law_pick q
  obtain ⟨fd__law_draw, U__law_draw, b__law_draw, m__law_draw, F__law_draw⟩ := (ok__law_draw (P := P) (base := base) (xt := xt) q).run
  refine ⟨fd, F, FunD.bindsN F fun _ _ _ _ _ _ us hl => match us, hl with | [_, _], _ => rfl, gg__law_pick q, ?_⟩
  exact fnD_of (k := 1) [.ml, .im] [.ml, .im] F sc__law_pick fun cdv A outer s H E gd hr =>
    (ss_one (s_ret (e_ix (e_var 1) (e_fn1 0 F__law_draw rfl rfl gd (hr.mono (by decide)) b__law_draw (takes_of rfl rfl rfl rfl) m__law_draw U__law_draw.kp (a_cons (e_callB c_len (gf_len q) rfl (a_cons (e_var 1) a_nil)) a_nil) len__law_draw))))
end
end C95
set_option maxHeartbeats 4000000
namespace C95
open PySem PySem.Spec L2 De
section
variable {P : Program} {w : World} {K : PySem.W.Frag} {mg : Str → Option Value} {base : Heap} {xt : Nat → Addr × Str}
abbrev N__law_texts : List Str := ["found"]
theorem sc__law_texts : FnScope ["found"] [] (defScope s__law_texts) := ⟨rfl, rfl, rfl, by decide +kernel, rfl, by decide +kernel, by decide +kernel⟩
theorem ok__law_texts (q : Fc w K mg) : Pm P w K mg base xt 1 "_law_texts" s__law_texts [] (df0 .im) f__law_texts := by
  obtain ⟨fd, F⟩ := fd__law_texts q
  refine ⟨fd, F, FunD.bindsN F fun _ _ _ _ _ _ us hl => match us, hl with | [], _ => rfl, gg__law_texts q, ?_⟩
  exact fnD_of (k := 0) [.im] [.im] F sc__law_texts fun cdv A outer s H E gd hr =>
    (ss_cons (s_set 0 sc__law_texts.nd (EOk.fz (by decide) (e_lst (a_cons (e_tup (a_cons e_str (a_cons (EOk.fz (by decide) (e_lst (a_cons e_str a_nil))) a_nil))) (a_cons (e_tup (a_cons e_str (a_cons (EOk.fz (by decide) (e_lst (a_cons e_str (a_cons e_str a_nil)))) a_nil))) (a_cons (e_tup (a_cons e_str (a_cons (EOk.fz (by decide) (e_lst (a_cons e_str a_nil))) a_nil))) (a_cons (e_tup (a_cons e_str (a_cons (EOk.fz (by decide) (e_lst (a_cons e_str a_nil))) a_nil))) (a_cons (e_tup (a_cons e_str (a_cons (EOk.fz (by decide) (e_lst (a_cons e_str a_nil))) a_nil))) (a_cons (e_tup (a_cons e_str (a_cons (EOk.fz (by decide) (e_lst (a_cons e_str a_nil))) a_nil))) a_nil))))))))) (ss_cons (s_set 0 sc__law_texts.nd (e_bin o_add (e_var 0) (EOk.fz (by decide) (e_lst (a_cons (e_tup (a_cons e_str (a_cons (EOk.fz (by decide) (e_lst (a_cons e_str a_nil))) a_nil))) (a_cons (e_tup (a_cons e_str (a_cons (EOk.fz (by decide) (e_lst (a_cons e_str a_nil))) a_nil))) (a_cons (e_tup (a_cons e_str (a_cons (EOk.fz (by decide) (e_lst (a_cons e_str a_nil))) a_nil))) (a_cons (e_tup (a_cons e_str (a_cons (EOk.fz (by decide) (e_lst (a_cons e_str a_nil))) a_nil))) (a_cons (e_tup (a_cons e_str (a_cons (EOk.fz (by decide) (e_lst a_nil)) a_nil))) (a_cons (e_tup (a_cons e_str (a_cons (EOk.fz (by decide) (e_lst a_nil)) a_nil))) (a_cons (e_tup (a_cons e_str (a_cons (EOk.fz (by decide) (e_lst a_nil)) a_nil))) (a_cons (e_tup (a_cons e_str (a_cons (EOk.fz (by decide) (e_lst a_nil)) a_nil))) a_nil)))))))))))) (ss_cons (s_set 0 sc__law_texts.nd (e_bin o_add (e_var 0) (EOk.fz (by decide) (e_lst (a_cons (e_tup (a_cons e_str (a_cons (EOk.fz (by decide) (e_lst a_nil)) a_nil))) (a_cons (e_tup (a_cons e_str (a_cons (EOk.fz (by decide) (e_lst a_nil)) a_nil))) (a_cons (e_tup (a_cons e_str (a_cons (EOk.fz (by decide) (e_lst a_nil)) a_nil))) (a_cons (e_tup (a_cons e_str (a_cons (EOk.fz (by decide) (e_lst a_nil)) a_nil))) (a_cons (e_tup (a_cons e_str (a_cons (EOk.fz (by decide) (e_lst a_nil)) a_nil))) (a_cons (e_tup (a_cons e_str (a_cons (EOk.fz (by decide) (e_lst (a_cons e_str a_nil))) a_nil))) (a_cons (e_tup (a_cons (e_bin o_strRep e_str e_int) (a_cons (EOk.fz (by decide) (e_lst a_nil)) a_nil))) (a_cons (e_tup (a_cons (e_bin o_add (e_bin o_strRep e_str e_int) e_str) (a_cons (EOk.fz (by decide) (e_lst a_nil)) a_nil))) a_nil)))))))))))) (ss_one (s_ret (e_bin o_add (e_var 0) (EOk.fz (by decide) (e_lst (a_cons (e_tup (a_cons (e_bin o_add (e_bin o_strRep e_str e_int) e_str) (a_cons (EOk.fz (by decide) (e_lst (a_cons e_str a_nil))) a_nil))) (a_cons (e_tup (a_cons e_str (a_cons (EOk.fz (by decide) (e_lst (a_cons e_str (a_cons e_str a_nil)))) a_nil))) (a_cons (e_tup (a_cons e_str (a_cons (EOk.fz (by decide) (e_lst (a_cons e_str a_nil))) a_nil))) (a_cons (e_tup (a_cons e_str (a_cons (EOk.fz (by decide) (e_lst (a_cons e_str a_nil))) a_nil))) (a_cons (e_tup (a_cons e_str (a_cons (EOk.fz (by decide) (e_lst a_nil)) a_nil))) (a_cons (e_tup (a_cons e_str (a_cons (EOk.fz (by decide) (e_lst a_nil)) a_nil))) (a_cons (e_tup (a_cons e_str (a_cons (EOk.fz (by decide) (e_lst a_nil)) a_nil))) (a_cons (e_tup (a_cons (e_bin o_strRep e_str e_int) (a_cons (EOk.fz (by decide) (e_lst (a_cons e_str a_nil))) a_nil))) a_nil))))))))))))))))
end
end C95
set_option maxHeartbeats 4000000
namespace C95
open PySem PySem.Spec L2 De
section
variable {P : Program} {w : World} {K : PySem.W.Frag} {mg : Str → Option Value} {base : Heap} {xt : Nat → Addr × Str}
abbrev N__law_deeds : List Str := ["found", "word"]
theorem sc__law_deeds : FnScope ["found", "word"] [] (defScope s__law_deeds) := ⟨rfl, rfl, rfl, by decide +kernel, rfl, by decide +kernel, by decide +kernel⟩
theorem ok__law_deeds (q : Fc w K mg) : Pm P w K mg base xt 1 "_law_deeds" s__law_deeds [] (df0 .im) f__law_deeds := by
  obtain ⟨fd, F⟩ := fd__law_deeds q
  refine ⟨fd, F, FunD.bindsN F fun _ _ _ _ _ _ us hl => match us, hl with | [], _ => rfl, gg__law_deeds q, ?_⟩
  exact fnD_of (k := 0) [.im, .im] [.im, .im] F sc__law_deeds fun cdv A outer s H E gd hr =>
    (ss_cons (s_set 0 sc__law_deeds.nd (e_disp (p_cons e_str (EOk.fz (by decide) (e_lst (a_cons e_str (a_cons e_str a_nil)))) (p_cons e_str (EOk.fz (by decide) (e_lst (a_cons e_str (a_cons e_str a_nil)))) (p_cons e_str (EOk.fz (by decide) (e_lst (a_cons e_str (a_cons e_str a_nil)))) (p_cons e_str (EOk.fz (by decide) (e_lst (a_cons e_str (a_cons e_str a_nil)))) (p_cons e_str (EOk.fz (by decide) (e_lst (a_cons e_str a_nil))) (p_cons e_str (EOk.fz (by decide) (e_lst (a_cons e_str a_nil))) p_nil)))))))) (ss_cons (s_for (passes_of rfl) rfl (i_seq (EOk.fz (by decide) (e_lst (a_cons e_str (a_cons e_str (a_cons e_str (a_cons e_str (a_cons e_str (a_cons e_str (a_cons e_str a_nil)))))))))) (g_name 1 sc__law_deeds.nd) (ss_one (s_put 0 hr.units rfl (e_var 1) (EOk.fz (by decide) (e_lst (a_cons e_str (a_cons e_str (a_cons e_str a_nil)))))))) (ss_cons (s_for (passes_of rfl) rfl (i_seq (EOk.fz (by decide) (e_lst (a_cons e_str (a_cons e_str (a_cons e_str (a_cons e_str (a_cons e_str (a_cons e_str (a_cons e_str (a_cons e_str a_nil))))))))))) (g_name 1 sc__law_deeds.nd) (ss_one (s_put 0 hr.units rfl (e_var 1) (EOk.fz (by decide) (e_lst (a_cons e_str (a_cons e_str a_nil))))))) (ss_cons (s_put 0 hr.units rfl e_str (EOk.fz (by decide) (e_lst (a_cons e_str (a_cons e_str (a_cons e_str a_nil)))))) (ss_freeze 0 (ss_one (s_ret (e_var 0))))))))
end
end C95
set_option maxHeartbeats 4000000
namespace C95
open PySem PySem.Spec L2 De
section
variable {P : Program} {w : World} {K : PySem.W.Frag} {mg : Str → Option Value} {base : Heap} {xt : Nat → Addr × Str}
abbrev N__law_asks : List Str := ["found", "word"]
theorem sc__law_asks : FnScope ["found", "word"] [] (defScope s__law_asks) := ⟨rfl, rfl, rfl, by decide +kernel, rfl, by decide +kernel, by decide +kernel⟩
theorem ok__law_asks (q : Fc w K mg) : Pm P w K mg base xt 1 "_law_asks" s__law_asks [] (df0 .im) f__law_asks := by
  obtain ⟨fd, F⟩ := fd__law_asks q
  refine ⟨fd, F, FunD.bindsN F fun _ _ _ _ _ _ us hl => match us, hl with | [], _ => rfl, gg__law_asks q, ?_⟩
  exact fnD_of (k := 0) [.im, .im] [.im, .im] F sc__law_asks fun cdv A outer s H E gd hr =>
    (ss_cons (s_set 0 sc__law_asks.nd (e_disp (p_cons e_str (EOk.fz (by decide) (e_lst a_nil)) (p_cons e_str (EOk.fz (by decide) (e_lst a_nil)) (p_cons e_str (EOk.fz (by decide) (e_lst a_nil)) (p_cons e_str (EOk.fz (by decide) (e_lst a_nil)) (p_cons e_str (EOk.fz (by decide) (e_lst (a_cons e_str (a_cons e_str a_nil)))) (p_cons e_str (EOk.fz (by decide) (e_lst (a_cons e_str (a_cons e_str (a_cons e_str a_nil))))) p_nil)))))))) (ss_cons (s_for (passes_of rfl) rfl (i_seq (EOk.fz (by decide) (e_lst (a_cons e_str (a_cons e_str (a_cons e_str (a_cons e_str (a_cons e_str (a_cons e_str (a_cons e_str (a_cons e_str (a_cons e_str (a_cons e_str a_nil))))))))))))) (g_name 1 sc__law_asks.nd) (ss_one (s_put 0 hr.units rfl (e_var 1) (EOk.fz (by decide) (e_lst (a_cons e_str a_nil)))))) (ss_cons (s_for (passes_of rfl) rfl (i_seq (EOk.fz (by decide) (e_lst (a_cons e_str (a_cons e_str (a_cons e_str a_nil)))))) (g_name 1 sc__law_asks.nd) (ss_one (s_put 0 hr.units rfl (e_var 1) (EOk.fz (by decide) (e_lst (a_cons e_str (a_cons e_str a_nil))))))) (ss_freeze 0 (ss_one (s_ret (e_var 0)))))))
end
end C95
set_option maxHeartbeats 4000000
namespace C95
open PySem PySem.Spec L2 De
section
variable {P : Program} {w : World} {K : PySem.W.Frag} {mg : Str → Option Value} {base : Heap} {xt : Nat → Addr × Str}
abbrev N__law_claims : List Str := ["found", "word"]
theorem sc__law_claims : FnScope ["found", "word"] [] (defScope s__law_claims) := ⟨rfl, rfl, rfl, by decide +kernel, rfl, by decide +kernel, by decide +kernel⟩
theorem ok__law_claims (q : Fc w K mg) : Pm P w K mg base xt 1 "_law_claims" s__law_claims [] (df0 .im) f__law_claims := by
  obtain ⟨fd, F⟩ := fd__law_claims q
  refine ⟨fd, F, FunD.bindsN F fun _ _ _ _ _ _ us hl => match us, hl with | [], _ => rfl, gg__law_claims q, ?_⟩
  exact fnD_of (k := 0) [.im, .im] [.im, .im] F sc__law_claims fun cdv A outer s H E gd hr =>
    (ss_cons (s_set 0 sc__law_claims.nd (e_disp (p_cons e_str (EOk.fz (by decide) (e_lst (a_cons e_str (a_cons e_str (a_cons e_str a_nil))))) (p_cons e_str (EOk.fz (by decide) (e_lst (a_cons e_str (a_cons e_str (a_cons e_str a_nil))))) (p_cons e_str (EOk.fz (by decide) (e_lst (a_cons e_str (a_cons e_str a_nil)))) (p_cons e_str (EOk.fz (by decide) (e_lst (a_cons e_str (a_cons e_str a_nil)))) p_nil)))))) (ss_cons (s_for (passes_of rfl) rfl (i_seq (EOk.fz (by decide) (e_lst (a_cons e_str (a_cons e_str (a_cons e_str (a_cons e_str a_nil))))))) (g_name 1 sc__law_claims.nd) (ss_one (s_put 0 hr.units rfl (e_var 1) (EOk.fz (by decide) (e_lst (a_cons e_str (a_cons e_str a_nil))))))) (ss_cons (s_for (passes_of rfl) rfl (i_seq (EOk.fz (by decide) (e_lst (a_cons e_str (a_cons e_str (a_cons e_str (a_cons e_str a_nil))))))) (g_name 1 sc__law_claims.nd) (ss_one (s_put 0 hr.units rfl (e_var 1) (EOk.fz (by decide) (e_lst (a_cons e_str a_nil)))))) (ss_freeze 0 (ss_one (s_ret (e_var 0)))))))
end
end C95
set_option maxHeartbeats 4000000
namespace C95
open PySem PySem.Spec L2 De
section
variable {P : Program} {w : World} {K : PySem.W.Frag} {mg : Str → Option Value} {base : Heap} {xt : Nat → Addr × Str}
abbrev N__law_is_name : List Str := ["word", "small", "sign"]
theorem sc__law_is_name : FnScope ["word", "small", "sign"] ["word"] (defScope s__law_is_name) := ⟨rfl, rfl, rfl, by decide +kernel, rfl, by decide +kernel, by decide +kernel⟩
theorem ok__law_is_name (q : Fc w K mg) : Pm P w K mg base xt 1 "_law_is_name" s__law_is_name ["word"] (df0 .im) f__law_is_name := by
  obtain ⟨fd, F⟩ := fd__law_is_name q
  refine ⟨fd, F, FunD.bindsN F fun _ _ _ _ _ _ us hl => match us, hl with | [_], _ => rfl, gg__law_is_name q, ?_⟩
  exact fnD_of (k := 0) [.im, .im, .im] [.im, .im, .im] F sc__law_is_name fun cdv A outer s H E gd hr =>
    (ss_cons (s_set 1 sc__law_is_name.nd e_str) (ss_one (s_ret (e_and (e_chain o_le o_le e_int (e_callB c_len (gf_len q) rfl (a_cons (e_var 0) a_nil)) e_int) (e_and (e_cmp o_in (e_ix (e_var 0) e_int) (e_var 1)) (e_one (e_callB (CallS.d (cs_all rfl)) (gf_all q) rfl (a_cons (EOk.fz (by decide) (e_comp (.inl rfl) rfl sc__law_is_name.nd (own := [("sign", 2)]) rfl rfl (blk_ok (N := N__law_is_name) (sc := defScope s__law_is_name) (by decide +kernel)) (i_seq (e_var 0)) (fun _ _ _ _ _ => (gv_name 2 sc__law_is_name.nd)) (fun _ _ _ _ _ => ts_nil) (fun _ _ _ _ _ => (e_cmp o_in (e_var 2) (e_bin o_add (e_var 1) e_str))))) a_nil))))))))
end
end C95
set_option maxHeartbeats 4000000
namespace C95
open PySem PySem.Spec L2 De
section
variable {P : Program} {w : World} {K : PySem.W.Frag} {mg : Str → Option Value} {base : Heap} {xt : Nat → Addr × Str}
abbrev N__law_is_count : List Str := ["word", "most", "sign"]
theorem sc__law_is_count : FnScope ["word", "most", "sign"] ["word", "most"] (defScope s__law_is_count) := ⟨rfl, rfl, rfl, by decide +kernel, rfl, by decide +kernel, by decide +kernel⟩
theorem ok__law_is_count (q : Fc w K mg) : Pm P w K mg base xt 1 "_law_is_count" s__law_is_count ["word", "most"] (df0 .im) f__law_is_count := by
  obtain ⟨fd, F⟩ := fd__law_is_count q
  refine ⟨fd, F, FunD.bindsN F fun _ _ _ _ _ _ us hl => match us, hl with | [_, _], _ => rfl, gg__law_is_count q, ?_⟩
  exact fnD_of (k := 0) [.im, .im, .im] [.im, .im, .im] F sc__law_is_count fun cdv A outer s H E gd hr =>
    (ss_one (s_ret (e_and (e_chain o_le o_le e_int (e_callB c_len (gf_len q) rfl (a_cons (e_var 0) a_nil)) (e_var 1)) (e_and (e_callB (CallS.d (cs_all rfl)) (gf_all q) rfl (a_cons (EOk.fz (by decide) (e_comp (.inl rfl) rfl sc__law_is_count.nd (own := [("sign", 2)]) rfl rfl (blk_ok (N := N__law_is_count) (sc := defScope s__law_is_count) (by decide +kernel)) (i_seq (e_var 0)) (fun _ _ _ _ _ => (gv_name 2 sc__law_is_count.nd)) (fun _ _ _ _ _ => ts_nil) (fun _ _ _ _ _ => (e_cmp o_in (e_var 2) e_str)))) a_nil)) (e_one (e_or (e_cmp (o_eq hr.units) (e_var 0) e_str) (e_one (e_cmp (o_ne hr.units) (e_ix (e_var 0) e_int) e_str))))))))
end
end C95
set_option maxHeartbeats 4000000
namespace C95
open PySem PySem.Spec L2 De
section
variable {P : Program} {w : World} {K : PySem.W.Frag} {mg : Str → Option Value} {base : Heap} {xt : Nat → Addr × Str}
abbrev N__law_fits : List Str := ["kind", "word", "text", "kinds"]
theorem sc__law_fits : FnScope ["kind", "word", "text", "kinds"] ["kind", "word"] (defScope s__law_fits) := ⟨rfl, rfl, rfl, by decide +kernel, rfl, by decide +kernel, by decide +kernel⟩
theorem ok__law_fits (q : Fc w K mg) : Pm P w K mg base xt 2 "_law_fits" s__law_fits ["kind", "word"] (df0 .im) f__law_fits := by
  obtain ⟨fd, F⟩ := fd__law_fits q
  obtain ⟨fd__law_texts, U__law_texts, b__law_texts, m__law_texts, F__law_texts⟩ := (ok__law_texts (P := P) (base := base) (xt := xt) q).run
  obtain ⟨fd__law_is_name, U__law_is_name, b__law_is_name, m__law_is_name, F__law_is_name⟩ := (ok__law_is_name (P := P) (base := base) (xt := xt) q).run
  obtain ⟨fd__law_is_count, U__law_is_count, b__law_is_count, m__law_is_count, F__law_is_count⟩ := (ok__law_is_count (P := P) (base := base) (xt := xt) q).run
  refine ⟨fd, F, FunD.bindsN F fun _ _ _ _ _ _ us hl => match us, hl with | [_, _], _ => rfl, gg__law_fits q, ?_⟩
  exact fnD_of (k := 1) [.im, .im, .im, .im] [.im, .im, .im, .im] F sc__law_fits fun cdv A outer s H E gd hr =>
    (ss_cons (s_if (t_cmp (o_eq hr.units) (e_var 0) e_str) (ss_one (s_ret (e_fn F__law_is_name gd (hr.mono (by decide)) b__law_is_name (takes_of rfl rfl rfl rfl) m__law_is_name U__law_is_name.kp (a_cons (e_var 1) a_nil) len__law_is_name))) ss_nil) (ss_cons (s_if (t_cmp (o_eq hr.units) (e_var 0) e_str) (ss_one (s_ret (e_fn F__law_is_count gd (hr.mono (by decide)) b__law_is_count (takes_of rfl rfl rfl rfl) m__law_is_count U__law_is_count.kp (a_cons (e_var 1) (a_cons e_int a_nil)) len__law_is_count))) ss_nil) (ss_cons (s_if (t_cmp (o_eq hr.units) (e_var 0) e_str) (ss_one (s_ret (e_or (e_fn F__law_is_count gd (hr.mono (by decide)) b__law_is_count (takes_of rfl rfl rfl rfl) m__law_is_count U__law_is_count.kp (a_cons (e_var 1) (a_cons e_int a_nil)) len__law_is_count) (e_one (e_and (e_cmp (o_eq hr.units) (e_sl (e_var 1) o_none (o_some e_int)) e_str) (e_and (e_cmp (o_ne hr.units) (e_var 1) e_str) (e_one (e_fn F__law_is_count gd (hr.mono (by decide)) b__law_is_count (takes_of rfl rfl rfl rfl) m__law_is_count U__law_is_count.kp (a_cons (e_sl (e_var 1) (o_some e_int) o_none) (a_cons e_int a_nil)) len__law_is_count)))))))) ss_nil) (ss_one (s_ret (e_cmp (o_ne hr.units) (EOk.fz (by decide) (e_comp (.inl rfl) rfl sc__law_fits.nd (own := [("text", 2), ("kinds", 3)]) rfl rfl (blk_ok (N := N__law_fits) (sc := defScope s__law_fits) (by decide +kernel)) (i_seq (e_fn0 F__law_texts gd (hr.mono (by decide)) b__law_texts (takes_of rfl rfl rfl rfl) m__law_texts U__law_texts.kp)) (fun _ _ _ _ _ => (gv_tup 2 rfl (gvs_cons (gv_name 2 sc__law_fits.nd) (gvs_cons (gv_name 3 sc__law_fits.nd) gvs_nil)))) (fun _ _ _ _ _ => (ts_one (t_w (w_and (t_cmp (o_eq hr.units) (e_var 2) (e_var 1)) (w_and1 (t_cmp o_in (e_var 0) (e_var 3))))))) (fun _ _ _ _ _ => (e_var 3)))) (EOk.fz (by decide) (e_lst a_nil))))))))
end
end C95
set_option maxHeartbeats 4000000
namespace C95
open PySem PySem.Spec L2 De
section
variable {P : Program} {w : World} {K : PySem.W.Frag} {mg : Str → Option Value} {base : Heap} {xt : Nat → Addr × Str}
abbrev N__law_due : List Str := ["value", "words", "kinds", "is_so", "kind", "word"]
theorem sc__law_due : FnScope ["value", "words", "kinds", "is_so", "kind", "word"] ["value"] (defScope s__law_due) := ⟨rfl, rfl, rfl, by decide +kernel, rfl, by decide +kernel, by decide +kernel⟩
theorem ok__law_due (q : Fc w K mg) : Pm P w K mg base xt 3 "_law_due" s__law_due ["value"] (df0 .im) f__law_due := by
  obtain ⟨fd, F⟩ := fd__law_due q
  obtain ⟨fd__law_deeds, U__law_deeds, b__law_deeds, m__law_deeds, F__law_deeds⟩ := (ok__law_deeds (P := P) (base := base) (xt := xt) q).run
  obtain ⟨fd__law_asks, U__law_asks, b__law_asks, m__law_asks, F__law_asks⟩ := (ok__law_asks (P := P) (base := base) (xt := xt) q).run
  obtain ⟨fd__law_claims, U__law_claims, b__law_claims, m__law_claims, F__law_claims⟩ := (ok__law_claims (P := P) (base := base) (xt := xt) q).run
  obtain ⟨fd__law_fits, U__law_fits, b__law_fits, m__law_fits, F__law_fits⟩ := (ok__law_fits (P := P) (base := base) (xt := xt) q).run
  refine ⟨fd, F, FunD.bindsN F fun _ _ _ _ _ _ us hl => match us, hl with | [_], _ => rfl, gg__law_due q, ?_⟩
  exact fnD_of (k := 2) [.im, .im, .im, .im, .im, .im] [.im, .im, .im, .im, .im, .im] F sc__law_due fun cdv A outer s H E gd hr =>
    (ss_cons (s_set 1 sc__law_due.nd (EOk.fz (by decide) (e_mtL PySem.F.slot_str_split PySem.F.type_str_split m_split (e_var 0) (a_cons e_str a_nil)))) (ss_cons (s_set 2 sc__law_due.nd e_non) (ss_cons (s_if (t_cmp (o_eq hr.units) (e_ix (e_var 1) e_int) e_str) (ss_one (s_set 2 sc__law_due.nd (e_if (t_w (w_and (t_cmp o_gt (e_callB c_len (gf_len q) rfl (a_cons (e_var 1) a_nil)) e_int) (w_and1 (t_cmp (o_inD hr.units) (e_ix (e_var 1) e_int) (e_fn0 F__law_claims gd (hr.mono (by decide)) b__law_claims (takes_of rfl rfl rfl rfl) m__law_claims U__law_claims.kp))))) (e_bin o_add (EOk.fz (by decide) (e_lst (a_cons e_str (a_cons e_str a_nil)))) (e_dix hr.units (e_fn0 F__law_claims gd (hr.mono (by decide)) b__law_claims (takes_of rfl rfl rfl rfl) m__law_claims U__law_claims.kp) (e_ix (e_var 1) e_int))) e_non))) (ss_one (s_if (t_cmp (o_inD hr.units) (e_ix (e_var 1) e_int) (e_fn0 F__law_deeds gd (hr.mono (by decide)) b__law_deeds (takes_of rfl rfl rfl rfl) m__law_deeds U__law_deeds.kp)) (ss_one (s_set 2 sc__law_due.nd (e_dix hr.units (e_fn0 F__law_deeds gd (hr.mono (by decide)) b__law_deeds (takes_of rfl rfl rfl rfl) m__law_deeds U__law_deeds.kp) (e_ix (e_var 1) e_int)))) (ss_one (s_if (t_cmp (o_inD hr.units) (e_ix (e_var 1) e_int) (e_fn0 F__law_asks gd (hr.mono (by decide)) b__law_asks (takes_of rfl rfl rfl rfl) m__law_asks U__law_asks.kp)) (ss_one (s_set 2 sc__law_due.nd (e_dix hr.units (e_fn0 F__law_asks gd (hr.mono (by decide)) b__law_asks (takes_of rfl rfl rfl rfl) m__law_asks U__law_asks.kp) (e_ix (e_var 1) e_int)))) ss_nil))))) (ss_cons (s_if (t_w (w_or (t_cmp o_isN (e_var 2) e_non) (w_or1 (t_cmp (o_ne hr.units) (e_callB c_len (gf_len q) rfl (a_cons (e_var 2) a_nil)) (e_bin o_sub (e_callB c_len (gf_len q) rfl (a_cons (e_var 1) a_nil)) e_int))))) (ss_one (s_ret (EOk.fz (by decide) (e_lst (a_cons e_bl (a_cons e_bl a_nil)))))) ss_nil) (ss_cons (s_set 3 sc__law_due.nd (e_callB (CallS.d (cs_all rfl)) (gf_all q) rfl (a_cons (EOk.fz (by decide) (e_comp (.inl rfl) rfl sc__law_due.nd (own := [("kind", 4), ("word", 5)]) rfl rfl (blk_ok (N := N__law_due) (sc := defScope s__law_due) (by decide +kernel)) (i_zip (gf_zip q) (a_cons (e_var 2) (a_cons (e_sl (e_var 1) (o_some e_int) o_none) a_nil))) (fun _ _ _ _ _ => (gv_tup 2 rfl (gvs_cons (gv_name 4 sc__law_due.nd) (gvs_cons (gv_name 5 sc__law_due.nd) gvs_nil)))) (fun _ _ _ _ _ => ts_nil) (fun _ _ _ _ _ => (e_or (e_cmp (o_eq hr.units) (e_var 4) e_str) (e_one (e_fn F__law_fits gd (hr.mono (by decide)) b__law_fits takes0 m__law_fits U__law_fits.kp (a_cons (e_var 4) (a_cons (e_var 5) a_nil)) len__law_fits)))))) a_nil))) (ss_one (s_ret (EOk.fz (by decide) (e_lst (a_cons (e_var 3) (a_cons (e_and (e_var 3) (e_one (e_cmp (o_notInD hr.units) (e_ix (e_var 1) e_int) (e_fn0 F__law_asks gd (hr.mono (by decide)) b__law_asks (takes_of rfl rfl rfl rfl) m__law_asks U__law_asks.kp)))) a_nil)))))))))))
end
end C95
set_option maxHeartbeats 4000000
namespace C95
open PySem PySem.Spec L2 De
section
variable {P : Program} {w : World} {K : PySem.W.Frag} {mg : Str → Option Value} {base : Heap} {xt : Nat → Addr × Str}
abbrev N__law_part : List Str := ["pot", "kind", "right", "text", "kinds"]
theorem sc__law_part : FnScope ["pot", "kind", "right", "text", "kinds"] ["pot", "kind"] (defScope s__law_part) := ⟨rfl, rfl, rfl, by decide +kernel, rfl, by decide +kernel, by decide +kernel⟩
theorem ok__law_part (q : Fc w K mg) : Pm P w K mg base xt 3 "_law_part" s__law_part ["pot", "kind"] (⟨true, [.ml], [.ml], .im⟩) f__law_part := by
  obtain ⟨fd, F⟩ := fd__law_part q
  obtain ⟨fd__law_draw, U__law_draw, b__law_draw, m__law_draw, F__law_draw⟩ := (ok__law_draw (P := P) (base := base) (xt := xt) q).run
  obtain ⟨fd__law_pick, U__law_pick, b__law_pick, m__law_pick, F__law_pick⟩ := (ok__law_pick (P := P) (base := base) (xt := xt) q).run
  obtain ⟨fd__law_texts, U__law_texts, b__law_texts, m__law_texts, F__law_texts⟩ := (ok__law_texts (P := P) (base := base) (xt := xt) q).run
  refine ⟨fd, F, FunD.bindsN F fun _ _ _ _ _ _ us hl => match us, hl with | [_, _], _ => rfl, gg__law_part q, ?_⟩
  exact fnD_of (k := 2) [.ml, .im, .im, .im, .im] [.ml, .im, .im, .im, .im] F sc__law_part fun cdv A outer s H E gd hr =>
    (ss_cons (s_if (t_w (w_or (t_cmp (o_eq hr.units) (e_var 1) e_str) (w_or1 (t_cmp (o_eq hr.units) (e_fn1 0 F__law_draw rfl rfl gd (hr.mono (by decide)) b__law_draw (takes_of rfl rfl rfl rfl) m__law_draw U__law_draw.kp (a_cons e_int a_nil) len__law_draw) e_int)))) (ss_one (s_ret (e_fn1 0 F__law_pick rfl rfl gd (hr.mono (by decide)) b__law_pick (takes_of rfl rfl rfl rfl) m__law_pick U__law_pick.kp (a_cons (e_if (t_cmp (o_eq hr.units) (e_fn1 0 F__law_draw rfl rfl gd (hr.mono (by decide)) b__law_draw (takes_of rfl rfl rfl rfl) m__law_draw U__law_draw.kp (a_cons e_int a_nil) len__law_draw) e_int) (EOk.fz (by decide) (e_lst (a_cons e_str (a_cons e_str (a_cons e_str (a_cons e_str (a_cons e_str (a_cons e_str (a_cons e_str (a_cons e_str (a_cons e_str (a_cons e_str (a_cons e_str (a_cons e_str (a_cons e_str (a_cons e_str (a_cons e_str a_nil))))))))))))))))) (EOk.fz (by decide) (e_lst (a_cons e_str (a_cons e_str a_nil))))) a_nil) len__law_pick))) ss_nil) (ss_cons (s_if (t_cmp (o_eq hr.units) (e_var 1) e_str) (ss_one (s_ret (e_fn1 0 F__law_pick rfl rfl gd (hr.mono (by decide)) b__law_pick (takes_of rfl rfl rfl rfl) m__law_pick U__law_pick.kp (a_cons (EOk.fz (by decide) (e_lst (a_cons e_str (a_cons e_str (a_cons e_str (a_cons e_str (a_cons e_str (a_cons e_str (a_cons e_str (a_cons e_str (a_cons e_str (a_cons e_str a_nil)))))))))))) a_nil) len__law_pick))) ss_nil) (ss_cons (s_if (t_cmp (o_eq hr.units) (e_var 1) e_str) (ss_one (s_ret (e_fn1 0 F__law_pick rfl rfl gd (hr.mono (by decide)) b__law_pick (takes_of rfl rfl rfl rfl) m__law_pick U__law_pick.kp (a_cons (EOk.fz (by decide) (e_lst (a_cons e_str (a_cons e_str (a_cons e_str (a_cons e_str (a_cons e_str (a_cons e_str (a_cons e_str (a_cons e_str (a_cons e_str (a_cons e_str a_nil)))))))))))) a_nil) len__law_pick))) ss_nil) (ss_cons (s_setLc 2 (.inl rfl) rfl sc__law_part.nd (own := [("text", 3), ("kinds", 4)]) rfl rfl (blk_ok (N := N__law_part) (sc := defScope s__law_part) (by decide +kernel)) rfl (i_seq (e_fn0 F__law_texts gd (hr.mono (by decide)) b__law_texts (takes_of rfl rfl rfl rfl) m__law_texts U__law_texts.kp)) (fun _ _ _ _ _ => (gv_tup 2 rfl (gvs_cons (gv_name 3 sc__law_part.nd) (gvs_cons (gv_name 4 sc__law_part.nd) gvs_nil)))) (fun _ _ _ _ _ => (ts_one (t_cmp o_in (e_var 1) (e_var 4)))) (fun _ _ _ _ _ => (e_var 3))) (ss_freeze 2 (ss_one (s_ret (e_if (t_cmp (o_eq hr.units) (e_fn1 0 F__law_draw rfl rfl gd (hr.mono (by decide)) b__law_draw (takes_of rfl rfl rfl rfl) m__law_draw U__law_draw.kp (a_cons e_int a_nil) len__law_draw) e_int) (e_fn1 0 F__law_pick rfl rfl gd (hr.mono (by decide)) b__law_pick (takes_of rfl rfl rfl rfl) m__law_pick U__law_pick.kp (a_cons (e_var 2) a_nil) len__law_pick) (e_ix (e_fn1 0 F__law_pick rfl rfl gd (hr.mono (by decide)) b__law_pick (takes_of rfl rfl rfl rfl) m__law_pick U__law_pick.kp (a_cons (e_fn0 F__law_texts gd (hr.mono (by decide)) b__law_texts (takes_of rfl rfl rfl rfl) m__law_texts U__law_texts.kp) a_nil) len__law_pick) e_int)))))))))
end
end C95
set_option maxHeartbeats 4000000
namespace C95
open PySem PySem.Spec L2 De
section
variable {P : Program} {w : World} {K : PySem.W.Frag} {mg : Str → Option Value} {base : Heap} {xt : Nat → Addr × Str}
abbrev N__law_string : List Str := ["pot", "way", "word", "kinds", "parts", "kind", "bend"]
theorem sc__law_string : FnScope ["pot", "way", "word", "kinds", "parts", "kind", "bend"] ["pot"] (defScope s__law_string) := ⟨rfl, rfl, rfl, by decide +kernel, rfl, by decide +kernel, by decide +kernel⟩
theorem ok__law_string (q : Fc w K mg) : Pm P w K mg base xt 4 "_law_string" s__law_string ["pot"] (⟨true, [.ml], [.ml], .im⟩) f__law_string := by
  obtain ⟨fd, F⟩ := fd__law_string q
  obtain ⟨fd__law_draw, U__law_draw, b__law_draw, m__law_draw, F__law_draw⟩ := (ok__law_draw (P := P) (base := base) (xt := xt) q).run
  obtain ⟨fd__law_pick, U__law_pick, b__law_pick, m__law_pick, F__law_pick⟩ := (ok__law_pick (P := P) (base := base) (xt := xt) q).run
  obtain ⟨fd__law_deeds, U__law_deeds, b__law_deeds, m__law_deeds, F__law_deeds⟩ := (ok__law_deeds (P := P) (base := base) (xt := xt) q).run
  obtain ⟨fd__law_asks, U__law_asks, b__law_asks, m__law_asks, F__law_asks⟩ := (ok__law_asks (P := P) (base := base) (xt := xt) q).run
  obtain ⟨fd__law_claims, U__law_claims, b__law_claims, m__law_claims, F__law_claims⟩ := (ok__law_claims (P := P) (base := base) (xt := xt) q).run
  obtain ⟨fd__law_part, U__law_part, b__law_part, m__law_part, F__law_part⟩ := (ok__law_part (P := P) (base := base) (xt := xt) q).run
  refine ⟨fd, F, FunD.bindsN F fun _ _ _ _ _ _ us hl => match us, hl with | [_], _ => rfl, gg__law_string q, ?_⟩
  exact fnD_of (k := 3) [.ml, .im, .im, .im, .im, .im, .im] [.ml, .im, .im, .im, .im, .im, .im] F sc__law_string fun cdv A outer s H E gd hr =>
    (ss_cons (s_set 1 sc__law_string.nd (e_fn1 0 F__law_draw rfl rfl gd (hr.mono (by decide)) b__law_draw (takes_of rfl rfl rfl rfl) m__law_draw U__law_draw.kp (a_cons e_int a_nil) len__law_draw)) (ss_cons (s_if (t_cmp o_lt (e_var 1) e_int) (ss_cons (s_set 2 sc__law_string.nd (e_fn1 0 F__law_pick rfl rfl gd (hr.mono (by decide)) b__law_pick (takes_of rfl rfl rfl rfl) m__law_pick U__law_pick.kp (a_cons (EOk.fz (by decide) (e_callBL c_sorted (gf_sorted q) rfl (a_cons (EOk.fz (by decide) (e_callTyL (c_listD rfl) (gf_list q) rfl (a_cons (e_fn0 F__law_deeds gd (hr.mono (by decide)) b__law_deeds (takes_of rfl rfl rfl rfl) m__law_deeds U__law_deeds.kp) a_nil))) a_nil))) a_nil) len__law_pick)) (ss_one (s_par 3 4 rfl sc__law_string.nd (e_dix hr.units (e_fn0 F__law_deeds gd (hr.mono (by decide)) b__law_deeds (takes_of rfl rfl rfl rfl) m__law_deeds U__law_deeds.kp) (e_var 2)) (e_lst (a_cons (e_var 2) a_nil))))) (ss_one (s_if (t_cmp (o_eq hr.units) (e_var 1) e_int) (ss_cons (s_set 2 sc__law_string.nd (e_fn1 0 F__law_pick rfl rfl gd (hr.mono (by decide)) b__law_pick (takes_of rfl rfl rfl rfl) m__law_pick U__law_pick.kp (a_cons (EOk.fz (by decide) (e_callBL c_sorted (gf_sorted q) rfl (a_cons (EOk.fz (by decide) (e_callTyL (c_listD rfl) (gf_list q) rfl (a_cons (e_fn0 F__law_asks gd (hr.mono (by decide)) b__law_asks (takes_of rfl rfl rfl rfl) m__law_asks U__law_asks.kp) a_nil))) a_nil))) a_nil) len__law_pick)) (ss_one (s_par 3 4 rfl sc__law_string.nd (e_dix hr.units (e_fn0 F__law_asks gd (hr.mono (by decide)) b__law_asks (takes_of rfl rfl rfl rfl) m__law_asks U__law_asks.kp) (e_var 2)) (e_lst (a_cons (e_var 2) a_nil))))) (ss_cons (s_set 2 sc__law_string.nd (e_fn1 0 F__law_pick rfl rfl gd (hr.mono (by decide)) b__law_pick (takes_of rfl rfl rfl rfl) m__law_pick U__law_pick.kp (a_cons (EOk.fz (by decide) (e_callBL c_sorted (gf_sorted q) rfl (a_cons (EOk.fz (by decide) (e_callTyL (c_listD rfl) (gf_list q) rfl (a_cons (e_fn0 F__law_claims gd (hr.mono (by decide)) b__law_claims (takes_of rfl rfl rfl rfl) m__law_claims U__law_claims.kp) a_nil))) a_nil))) a_nil) len__law_pick)) (ss_one (s_par 3 4 rfl sc__law_string.nd (e_dix hr.units (e_fn0 F__law_claims gd (hr.mono (by decide)) b__law_claims (takes_of rfl rfl rfl rfl) m__law_claims U__law_claims.kp) (e_var 2)) (e_lst (a_cons e_str (a_cons (e_fn1 0 F__law_part rfl rfl gd (hr.mono (by decide)) b__law_part (takes_of rfl rfl rfl rfl) m__law_part U__law_part.kp (a_cons e_str a_nil) len__law_part) (a_cons (e_var 2) a_nil)))))))))) (ss_cons (s_for (passes_of rfl) rfl (i_seq (e_var 3)) (g_name 5 sc__law_string.nd) (ss_one (s_app 4 rfl (e_fn1 0 F__law_part rfl rfl gd (hr.mono (by decide)) b__law_part (takes_of rfl rfl rfl rfl) m__law_part U__law_part.kp (a_cons (e_var 5) a_nil) len__law_part)))) (ss_cons (s_set 6 sc__law_string.nd (e_fn1 0 F__law_draw rfl rfl gd (hr.mono (by decide)) b__law_draw (takes_of rfl rfl rfl rfl) m__law_draw U__law_draw.kp (a_cons e_int a_nil) len__law_draw)) (ss_cons (s_if (t_w (w_and (t_cmp (o_eq hr.units) (e_var 6) e_int) (w_and1 (t_cmp o_gt (e_callS 4 cs_len rfl (gf_len q) rfl) e_int)))) (ss_one (s_expr (e_pop 4 rfl))) (ss_one (s_if (t_cmp (o_eq hr.units) (e_var 6) e_int) (ss_one (s_app 4 rfl e_str)) (ss_one (s_if (t_cmp (o_eq hr.units) (e_var 6) e_int) (ss_one (s_asg (e_fn1 0 F__law_pick rfl rfl gd (hr.mono (by decide)) b__law_pick (takes_of rfl rfl rfl rfl) m__law_pick U__law_pick.kp (a_cons (EOk.fz (by decide) (e_lst (a_cons e_str (a_cons e_str (a_cons e_str (a_cons e_str (a_cons e_str (a_cons e_str (a_cons e_str a_nil))))))))) a_nil) len__law_pick) (g_ix 4 rfl e_int))) ss_nil))))) (ss_freeze 4 (ss_one (s_ret (e_mt PySem.F.slot_str_join PySem.F.type_str_join m_join (e_if (t_cmp (o_eq hr.units) (e_var 6) e_int) e_str e_str) (a_cons (e_var 4) a_nil))))))))))
end
end C95
set_option maxHeartbeats 4000000
namespace C95
open PySem PySem.Spec L2 De
section
variable {P : Program} {w : World} {K : PySem.W.Frag} {mg : Str → Option Value} {base : Heap} {xt : Nat → Addr × Str}
abbrev N_law : List Str := ["script", "pot", "value", "turn", "word"]
theorem sc_law : FnScope ["script", "pot", "value", "turn", "word"] ["script"] (defScope s_law) := ⟨rfl, rfl, rfl, by decide +kernel, rfl, by decide +kernel, by decide +kernel⟩
theorem ok_law (q : Fc w K mg) : Pm P w K mg base xt 12 "law" s_law ["script"] (⟨false, [.sc], [.sc], .im⟩) f_law := by
  obtain ⟨fd, F⟩ := fd_law q
  obtain ⟨fd_is_name, U_is_name, b_is_name, m_is_name, F_is_name⟩ := (ok_is_name (P := P) (base := base) (xt := xt) q).run
  obtain ⟨fd_is_command, U_is_command, b_is_command, m_is_command, F_is_command⟩ := (ok_is_command (P := P) (base := base) (xt := xt) q).run
  obtain ⟨fd_is_deed, U_is_deed, b_is_deed, m_is_deed, F_is_deed⟩ := (ok_is_deed (P := P) (base := base) (xt := xt) q).run
  obtain ⟨fd__law_pot, U__law_pot, b__law_pot, m__law_pot, F__law_pot⟩ := (ok__law_pot (P := P) (base := base) (xt := xt) q).run
  obtain ⟨fd__law_is_name, U__law_is_name, b__law_is_name, m__law_is_name, F__law_is_name⟩ := (ok__law_is_name (P := P) (base := base) (xt := xt) q).run
  obtain ⟨fd__law_due, U__law_due, b__law_due, m__law_due, F__law_due⟩ := (ok__law_due (P := P) (base := base) (xt := xt) q).run
  obtain ⟨fd__law_string, U__law_string, b__law_string, m__law_string, F__law_string⟩ := (ok__law_string (P := P) (base := base) (xt := xt) q).run
  refine ⟨fd, F, FunD.bindsN F fun _ _ _ _ _ _ us hl => match us, hl with | [_], _ => rfl, gg_law q, ?_⟩
  exact fnD_of (k := 11) [.sc, .im, .im, .im, .im] [.sc, .im, .im, .im, .im] F sc_law fun cdv A outer s H E gd hr =>
    (ss_cons (s_set 1 sc_law.nd (e_fnS 0 F__law_pot rfl gd (hr.mono (by decide)) b__law_pot (takes_of rfl rfl rfl rfl) m__law_pot U__law_pot.kp (a_cons e_int a_nil) len__law_pot)) (ss_cons (s_for (passes_of rfl) rfl (i_seq (EOk.fz (by decide) (e_lst (a_cons e_non (a_cons e_int (a_cons e_bl (a_cons (EOk.fz (by decide) (e_lst a_nil)) (a_cons (EOk.fz (by decide) (e_lst (a_cons e_str a_nil))) (a_cons (e_tup (a_cons e_str a_nil)) (a_cons (EOk.fz (by decide) e_dnew) (a_cons e_str (a_cons e_str (a_cons e_str (a_cons e_str (a_cons e_str a_nil))))))))))))))) (g_name 2 sc_law.nd) (ss_one (s_if (t_w (w_or (t_cmp o_isNotB (e_fn F_is_command gd (hr.mono (by decide)) b_is_command (takes_of rfl rfl rfl rfl) m_is_command U_is_command.kp (a_cons (e_var 2) a_nil) len_is_command) e_bl) (w_or (t_cmp o_isNotB (e_fnK F_is_deed gd (hr.mono (by decide)) (kw_is_deed U_is_deed) (takes_of rfl rfl rfl rfl) m_is_deed U_is_deed.kp (k_cons (e_var 2) k_nil) (fun r => r) len_is_deed) e_bl) (w_or1 (t_cmp o_isNotB (e_fn F_is_name gd (hr.mono (by decide)) b_is_name (takes_of rfl rfl rfl rfl) m_is_name U_is_name.kp (a_cons (e_var 2) a_nil) len_is_name) e_bl))))) (ss_one (s_ret e_bl)) ss_nil))) (ss_cons (s_for (passes_of rfl) rfl (i_rng1 (gf_range q) (a_cons e_int a_nil)) (g_name 3 sc_law.nd) (ss_cons (s_set 2 sc_law.nd (e_fn1 1 F__law_string rfl rfl gd (hr.mono (by decide)) b__law_string (takes_of rfl rfl rfl rfl) m__law_string U__law_string.kp a_nil len__law_string)) (ss_cons (s_if (t_w (w_or (t_cmp (o_ne hr.units) (e_callB (c_repr gd hr.units) (gf_repr q) rfl (a_cons (EOk.fz (by decide) (e_lst (a_cons (e_fn F_is_command gd (hr.mono (by decide)) b_is_command (takes_of rfl rfl rfl rfl) m_is_command U_is_command.kp (a_cons (e_var 2) a_nil) len_is_command) (a_cons (e_fn F_is_deed gd (hr.mono (by decide)) b_is_deed (takes_of rfl rfl rfl rfl) m_is_deed U_is_deed.kp (a_cons (e_var 2) a_nil) len_is_deed) a_nil)))) a_nil)) (e_callB (c_repr gd hr.units) (gf_repr q) rfl (a_cons (e_fn F__law_due gd (hr.mono (by decide)) b__law_due (takes_of rfl rfl rfl rfl) m__law_due U__law_due.kp (a_cons (e_var 2) a_nil) len__law_due) a_nil))) (w_or1 (t_cmp (o_ne hr.units) (e_fnK F_is_command gd (hr.mono (by decide)) (kw_is_command U_is_command) (takes_of rfl rfl rfl rfl) m_is_command U_is_command.kp (k_cons (e_var 2) k_nil) (fun r => r) len_is_command) (e_ix (e_fn F__law_due gd (hr.mono (by decide)) b__law_due (takes_of rfl rfl rfl rfl) m__law_due U__law_due.kp (a_cons (e_var 2) a_nil) len__law_due) e_int))))) (ss_one (s_ret e_bl)) ss_nil) (ss_one (s_for (passes_of rfl) rfl (i_seq (e_sl (EOk.fz (by decide) (e_mtL PySem.F.slot_str_split PySem.F.type_str_split m_split (e_var 2) (a_cons e_str a_nil))) (o_some e_int) (o_some e_int))) (g_name 4 sc_law.nd) (ss_one (s_if (t_cmp (o_ne hr.units) (e_callB (c_repr gd hr.units) (gf_repr q) rfl (a_cons (e_fn F_is_name gd (hr.mono (by decide)) b_is_name (takes_of rfl rfl rfl rfl) m_is_name U_is_name.kp (a_cons (e_var 4) a_nil) len_is_name) a_nil)) (e_callB (c_repr gd hr.units) (gf_repr q) rfl (a_cons (e_fn F__law_is_name gd (hr.mono (by decide)) b__law_is_name (takes_of rfl rfl rfl rfl) m__law_is_name U__law_is_name.kp (a_cons (e_var 4) a_nil) len__law_is_name) a_nil))) (ss_one (s_ret e_bl)) ss_nil))))))) (ss_one (s_ret e_bl)))))
end
end C95
set_option maxHeartbeats 0
namespace C95
open PySem PySem.Spec PyProof.Rows L2 De
abbrev R : PySem.W.OpenRow := PySem.W.OpenLaw.row PySem.Challenge.rw_curvemeets_k95_any_string_as_command
def nm0 : List Str := ["trimmed", "trimmed_plane", "FIGURES_readers", "SIGNS_readers", "COLON", "MOST_FIGURES_readers", "OF_LINE", "OF_PLANE", "OF_CURVE", "OF_CHANGE", "behind_blanks", "behind_numeral", "read_letters", "read_term", "read_sum", "read_sums", "line_by", "plane_by", "straight_numbers", "told_by", "told_line", "told_plane", "told_lines", "told_numbers", "FIGURES_commands"]
def nm1 : List Str := ["LETTERS", "SIGNS_commands", "MOST_NAME", "MOST_TEXT", "MOST_FIGURES_commands", "MOST_COUNT", "NEW", "LABEL", "PLANE", "LINE", "CURVE", "CHANGE", "ANY", "OTHER", "THINGS", "NAMES", "PLANE_TEXT", "LINE_TEXT", "CURVE_TEXT", "CHANGE_TEXT", "CLAIMS", "DEEDS", "QUESTIONS", "is_name", "figures_in"]
def nm2 : List Str := ["count_in", "short_number", "has_long_numeral", "text_in", "told_of_kind", "kinds_of", "command_parts", "is_command", "is_deed", "_law_pot", "_law_draw", "_law_pick", "_law_texts", "_law_deeds", "_law_asks", "_law_claims", "_law_is_name", "_law_is_count", "_law_fits", "_law_due", "_law_part", "_law_string"]
def loose : List Str := nm0 ++ nm1 ++ nm2
abbrev hk : PySem.W.Hook := hookU 4 fa fn ts qs
def ob (s : PySem.W.SharedT) : AlU := seeG 4 fa fn ts qs (HandSHeadRun.getT s)
theorem ob_eq (s : PySem.W.SharedT) : ob s = hk.obs s.abs := seeG_eq (HandSHeadRun.getT_eq s)
theorem run (w : World) : HandSHeadRun.RunEq R (PySem.W.view R.prog [77]) hk ob 3000 loose w := by
  refine PySem.W.byRow2 "special-get-raises" (P := fun w => HandSHeadRun.RunEq R (PySem.W.view R.prog [77]) hk ob 3000 loose w) ?_ ?_ w
  · intro w os
    kernel_rfl
  · intro w os
    kernel_rfl
end C95
set_option maxHeartbeats 4000000
namespace C95
open PySem PySem.Spec L2 De
/-! ### small facts -/
theorem at0 {α : Type} {d : α} {r : List α} : L2.atI (d :: r) 0 = some d := by
  unfold L2.atI
  have : ixN (d :: r).length 0 = some 0 := by
    unfold ixN
    simp
  rw [this]
  rfl
theorem at2 {α : Type} {a b d : α} {r : List α} : L2.atI (a :: b :: d :: r) 2 = some d := by
  unfold L2.atI
  have : ixN (a :: b :: d :: r).length 2 = some 2 := by
    unfold ixN
    simp
    omega
  rw [this]
  rfl
theorem eq_str {x y : Str} (hx : PyData.strOk x = true) (hy : PyData.strOk y = true) : gEq (.str x) (.str y) = some (.bool (decide (x = y))) := by
  have h : (SeqAt.shaped (PyData.str x) && SeqAt.shaped (PyData.str y)) = true := by simp [SeqAt.shaped, PyData.canLay0, PyData.depth, hx, hy]
  unfold gEq
  rw [if_pos h]
  rfl
theorem so_claim : PyData.strOk "claim" = true := by decide +kernel
theorem so_word : PyData.strOk "word" = true := by decide +kernel
theorem so_same : PyData.strOk "same" = true := by decide +kernel
theorem ne_int {x y : Int} : gNe (.int x) (.int y) = some (.bool (!decide (x = y))) := by
  have h : (SeqAt.shaped (PyData.int x) && SeqAt.shaped (PyData.int y)) = true := by simp [SeqAt.shaped, PyData.canLay0, PyData.depth]
  unfold gNe
  rw [if_pos h]
  rfl
theorem eq_int {x y : Int} : gEq (.int x) (.int y) = some (.bool (decide (x = y))) := by
  have h : (SeqAt.shaped (PyData.int x) && SeqAt.shaped (PyData.int y)) = true := by simp [SeqAt.shaped, PyData.canLay0, PyData.depth]
  unfold gEq
  rw [if_pos h]
  rfl
abbrev sl (l : List Str) : List D := l.map PyData.str
/-! ### what kinds stand behind words -/
def tupOf : Option D → Option (List D)
  | some (.tuple ks) => some ks
  | _ => none
def third : List Str → Option Str
  | _ :: z :: _ => some z
  | _ => none
def kindsP (w0 : Str) (r : List Str) : Option (List D) :=
  if w0 = "claim" then (third r).bind fun z => (tupOf (lookD t_CLAIMS z)).map fun ks => .str "label" :: .str "word" :: ks
  else match tupOf (lookD t_DEEDS w0) with
    | some ks => some ks
    | none => tupOf (lookD t_QUESTIONS w0)
def optT : Option (List D) → D
  | some ks => .tuple ks
  | none => .none
def shortT : D → Bool
  | .tuple ks => decide (ks.length ≤ 9)
  | _ => false
theorem tab_short {tab : TabD} (h : (tab.all fun p => shortT p.2) = true) {z : Str} {d : D} (e : lookD tab z = some d) : ∃ ks, d = .tuple ks ∧ ks.length ≤ 9 := by
  have := List.all_eq_true.mp h _ (lookD_some e)
  cases d with
  | tuple ks => exact ⟨ks, rfl, of_decide_eq_true this⟩
  | _ => cases this
theorem sC : (t_CLAIMS.all fun p => shortT p.2) = true := by decide +kernel
theorem sD : (t_DEEDS.all fun p => shortT p.2) = true := by decide +kernel
theorem sQ : (t_QUESTIONS.all fun p => shortT p.2) = true := by decide +kernel
theorem kinds_eq (w0 : Str) (r : List Str) (hw : PyData.strOk w0 = true) : ∃ ρ, f_kinds_of [.list (sl (w0 :: r))] = .ok (optT (kindsP w0 r)) ρ := by
  unfold f_kinds_of b_kinds_of runB kindsP
  by_cases h : w0 = "claim"
  · rw [if_pos h]
    match r with
    | [] => simp [ySeq, yIf, xIf, ySet, yRet, Out.bind, xVar, xC, lift, xBin, gIx, at0, eq_str, so_claim, hw, xB, h, xAndT, xCall, on1, lenD, xCons, xNil, gGt, gII, third, optT]
    | [_] => simp [ySeq, yIf, xIf, ySet, yRet, Out.bind, xVar, xC, lift, xBin, gIx, at0, eq_str, so_claim, hw, xB, h, xAndT, xCall, on1, lenD, xCons, xNil, gGt, gII, third, optT]
    | a :: z :: r =>
      have hl : (2 : Int) < (r.length : Int) + 1 + 1 + 1 := by omega
      cases e : lookD t_CLAIMS z with
      | none => simp [ySeq, yIf, xIf, ySet, yRet, Out.bind, xVar, xC, lift, xBin, gIx, at0, at2, eq_str, so_claim, hw, xB, h, xAndT, xCall, on1, lenD, xCons, xNil, gGt, gII, third, optT, xKIn, e, hl, tupOf]
      | some d =>
        obtain ⟨ks, rfl, hk⟩ := tab_short sC e
        have hs : 2 + ks.length ≤ sizeLine := by rw [sizeLine_eq]; omega
        have hs2 : (2 : Nat) ≤ sizeLine := by decide
        simp [ySeq, yIf, xIf, ySet, yRet, Out.bind, xVar, xC, lift, xBin, gIx, at0, at2, eq_str, so_claim, hw, xB, h, xAndT, xCall, on1, lenD, xCons, xNil, gGt, gII, third, optT, xKIn, xKIx, e, hl, tupOf, xTup, gAdd, hs, hs2]
  · rw [if_neg h]
    cases e : lookD t_DEEDS w0 with
    | some d =>
      obtain ⟨ks, rfl, hk⟩ := tab_short sD e
      simp [ySeq, yIf, xIf, ySet, yRet, yNil, Out.bind, xVar, xC, lift, xBin, gIx, at0, eq_str, so_claim, hw, xB, h, optT, xKIn, xKIx, e, tupOf]
    | none =>
      cases e2 : lookD t_QUESTIONS w0 with
      | some d =>
        obtain ⟨ks, rfl, hk⟩ := tab_short sQ e2
        simp [ySeq, yIf, xIf, ySet, yRet, yNil, Out.bind, xVar, xC, lift, xBin, gIx, at0, eq_str, so_claim, hw, xB, h, optT, xKIn, xKIx, e, e2, tupOf]
      | none => simp [ySeq, yIf, xIf, ySet, yRet, yNil, Out.bind, xVar, xC, lift, xBin, gIx, at0, eq_str, so_claim, hw, xB, h, optT, xKIn, xKIx, e, e2, tupOf]
end C95
set_option maxHeartbeats 4000000
namespace C95
open PySem PySem.Spec L2 De
theorem cut1 {α : Type} {x : α} {r : List α} : cutL (x :: r) (some 1) none = r := by
  unfold cutL HT.sIx
  simp
theorem zip_map (ks : List D) (r : List Str) : List.zipWith (fun x y => PyData.tuple [x, y]) ks (sl r) = (ks.zip r).map fun p => .tuple [p.1, .str p.2] := by
  induction ks generalizing r with
  | nil => rfl
  | cons k ks ih => cases r with
    | nil => rfl
    | cons w r =>
      show _ :: List.zipWith (fun x y => PyData.tuple [x, y]) ks (sl r) = _
      rw [ih]
      rfl
/-- what a word is told to be -/
def res (k : D) (w : Str) : D := match k with
  | .str kk => if kk = "word" then .str w else (match f_told_of_kind [.str kk, .str w] with
    | .ok d _ => d
    | _ => .none)
  | _ => .none
def Good (k : D) (w : Str) : Prop := ∃ kk, k = .str kk ∧ PyData.strOk kk = true ∧ (kk = "word" ∨ ∃ d ρ, f_told_of_kind [.str kk, .str w] = .ok d ρ)
theorem loop_parts (a0 a1 a2 x6 : Option D) : ∀ (ps : List (D × Str)) (acc : List D) (x4 x5 : Option D), (∀ p ∈ ps, Good p.1 p.2) → acc.length + ps.length < sizeLine → ∃ y4 y5,
    forD (zTup 2 (zCons (zName 4) (zCons (zName 5) zNil))) (yApp 3 (xIf (xB (xBin gEq (xVar 4) (xC (PyData.str "word")))) (xVar 5) (xFn f_told_of_kind (xCons (xVar 4) (xCons (xVar 5) xNil))))) (ps.map fun p => .tuple [p.1, .str p.2]) [a0, a1, a2, some (.list acc), x4, x5, x6]
      = .ok .nx [a0, a1, a2, some (.list (acc ++ ps.map fun p => res p.1 p.2)), y4, y5, x6]
  | [], acc, x4, x5, _, _ => ⟨x4, x5, by simp [forD]⟩
  | (k, w) :: ps, acc, x4, x5, hg, hl => by
    obtain ⟨kk, e1, so, hk⟩ := hg (k, w) List.mem_cons_self
    have e1' : k = .str kk := e1
    subst e1'
    have hl1 : acc.length < sizeLine := by have : ((PyData.str kk, w) :: ps).length = ps.length + 1 := rfl; omega
    obtain ⟨y4, y5, ih⟩ := loop_parts a0 a1 a2 x6 ps (acc ++ [res (.str kk) w]) (some (.str kk)) (some (.str w)) (fun p hp => hg p (List.mem_cons_of_mem _ hp)) (by
      rw [List.length_append]
      have : ((PyData.str kk, w) :: ps).length = ps.length + 1 := rfl
      simp
      omega)
    refine ⟨y4, y5, ?_⟩
    have key : (yApp 3 (xIf (xB (xBin gEq (xVar 4) (xC (PyData.str "word")))) (xVar 5) (xFn f_told_of_kind (xCons (xVar 4) (xCons (xVar 5) xNil))))) [a0, a1, a2, some (.list acc), some (.str kk), some (.str w), x6] = .ok .nx [a0, a1, a2, some (.list (acc ++ [res (.str kk) w])), some (.str kk), some (.str w), x6] := by
      by_cases h : kk = "word"
      · simp [yApp, xIf, xB, xBin, xVar, xC, lift, Out.bind, eq_str, so, so_word, h, res, hl1]
      · obtain ⟨d, ρ, e⟩ := hk.resolve_left h
        simp [yApp, xIf, xB, xBin, xVar, xC, lift, Out.bind, eq_str, so, so_word, h, res, hl1, xFn, xCons, xNil, Out.seal, e]
    show (((zTup 2 (zCons (zName 4) (zCons (zName 5) zNil))) (.tuple [.str kk, .str w]) [a0, a1, a2, some (.list acc), x4, x5, x6]).bind fun _ ρ1 => _) = _
    simp only [zTup, zCons, zName, zNil, Out.bind, List.length_cons, List.length_nil, if_true, List.set_cons_succ, List.set_cons_zero]
    simp only [key, Nat.reduceAdd, if_true, List.set_cons_succ, List.set_cons_zero]
    rw [ih]
    simp
end C95
set_option maxHeartbeats 4000000
namespace C95
open PySem PySem.Spec L2 De
theorem comp_any (a0 a1 a2 a3 a4 a5 : Option D) : ∀ (ds : List D) (x6 : Option D), ∃ y6, compD (zName 6) xYes (xBin gIsN (xVar 6) (xC PyData.none)) [6] ds [a0, a1, a2, a3, a4, a5, x6] = .ok (ds.map fun d => .bool (isN d)) [a0, a1, a2, a3, a4, a5, y6]
  | [], x6 => ⟨x6, by simp [compD]⟩
  | d :: ds, x6 => by
    obtain ⟨y6, ih⟩ := comp_any a0 a1 a2 a3 a4 a5 ds none
    refine ⟨y6, ?_⟩
    simp [compD, Out.bind, zName, xYes, xBin, xVar, xC, lift, gIsN, isN, wipeD, ih]
theorem bools_map (ds : List D) : boolsOf (ds.map fun d => PyData.bool (isN d)) = some (ds.map isN) := by
  induction ds with
  | nil => rfl
  | cons d ds ih => simp [boolsOf, ih]
/-- the parts of a command of these words -/
def partsP (w0 : Str) (r : List Str) : D := match kindsP w0 r with
  | none => .none
  | some ks => if ks.length = r.length then (if (((ks.zip r).map fun p => res p.1 p.2).any isN) = true then .none else .tuple [.str w0, .list ((ks.zip r).map fun p => res p.1 p.2)]) else .none
theorem isi_str {v : Str} : isiD "str" (.str v) = some (.bool true) := rfl
/-- ends in a return -/
def Ret (o : Out SO) (d : D) : Prop := ∃ ρ, o = .ok (.ret d) ρ
section
variable {u w : De.Env → Out SO} {t : De.Env → Out Bool} {f : De.Env → Out D} {ρ ρ1 : De.Env} {d : D}
theorem Ret.next (h : u ρ = .ok .nx ρ1) (k : Ret (w ρ1) d) : Ret (ySeq u w ρ) d := by
  obtain ⟨ρ2, k⟩ := k
  exact ⟨ρ2, by simp [ySeq, h, Out.bind, k]⟩
theorem Ret.first (k : Ret (u ρ) d) : Ret (ySeq u w ρ) d := by
  obtain ⟨ρ2, k⟩ := k
  exact ⟨ρ2, by simp [ySeq, Out.bind, k]⟩
theorem Ret.ift (h : t ρ = .ok true ρ1) (k : Ret (u ρ1) d) : Ret (yIf t u w ρ) d := by
  obtain ⟨ρ2, k⟩ := k
  exact ⟨ρ2, by simp [yIf, xIf, h, Out.bind, k]⟩
theorem Ret.iff (h : t ρ = .ok false ρ1) (k : Ret (w ρ1) d) : Ret (yIf t u w ρ) d := by
  obtain ⟨ρ2, k⟩ := k
  exact ⟨ρ2, by simp [yIf, xIf, h, Out.bind, k]⟩
theorem Ret.of (h : f ρ = .ok d ρ1) : Ret (yRet f ρ) d := ⟨ρ1, by simp [yRet, h, Out.bind]⟩
theorem if_nx (h : t ρ = .ok false ρ1) : yIf t u yNil ρ = .ok .nx ρ1 := by simp [yIf, xIf, h, Out.bind, yNil]
theorem Ret.run {N n : Nat} {rm : SK} {b : De.Env → Out SO} {ds : List D} (hn : ds.length = n) (h : Ret (b (ds.map some ++ List.replicate (N - n) none)) d) : ∃ ρ, runB N n rm b ds = .ok d ρ := by
  obtain ⟨ρ2, h⟩ := h
  refine ⟨ρ2, ?_⟩
  unfold runB
  rw [if_pos hn, h]
  rfl
end
theorem split_sp {v w0 : Str} {r : List Str} (hs : Txt.split v " " = w0 :: r) (hl : v.length + 2 ≤ sizeLine) : splitD v [.str " "] = some (PyData.str w0 :: sl r) := by
  have h1 : (!((" " : Str).length == 0) && decide (v.length + 2 ≤ sizeLine)) = true := by simp [hl]; decide
  show (if (!((" " : Str).length == 0) && decide (v.length + 2 ≤ sizeLine)) = true then some ((Txt.split v " ").map PyData.str) else none) = _
  rw [if_pos h1, hs]
  rfl
theorem parts_eq {v w0 : Str} {r : List Str} (hs : Txt.split v " " = w0 :: r) (hl : v.length + 2 ≤ sizeLine) (hr : r.length < 1000) (hw : PyData.strOk w0 = true) (hg : ∀ ks, kindsP w0 r = some ks → ks.length = r.length → ∀ p ∈ ks.zip r, Good p.1 p.2) :
    ∃ ρ, f_command_parts [.str v] = .ok (partsP w0 r) ρ := by
  have hsp := split_sp hs hl
  obtain ⟨ρk, hk⟩ := kinds_eq w0 r hw
  have hk' : f_kinds_of [.list (PyData.str w0 :: sl r)] = .ok (optT (kindsP w0 r)) ρk := hk
  have hlen : (sl r).length = r.length := List.length_map ..
  have s1 : yIf (xNotT (xB (xIsi "str" (xVar 0)))) (yRet (xC PyData.none)) yNil [some (.str v), none, none, none, none, none, none] = .ok .nx [some (.str v), none, none, none, none, none, none] := by
    simp [yIf, xIf, yNil, Out.bind, xVar, lift, xB, xNotT, xIsi, isi_str]
  have s2 : ySet 1 (xMtL splitD (xVar 0) (xCons (xC (PyData.str " ")) xNil)) [some (.str v), none, none, none, none, none, none] = .ok .nx [some (.str v), some (.list (PyData.str w0 :: sl r)), none, none, none, none, none] := by
    simp [ySet, Out.bind, xVar, xC, lift, xMtL, hsp, xCons, xNil]
  have s3 : ySet 2 (xFn f_kinds_of (xCons (xVar 1) xNil)) [some (.str v), some (.list (PyData.str w0 :: sl r)), none, none, none, none, none] = .ok .nx [some (.str v), some (.list (PyData.str w0 :: sl r)), some (optT (kindsP w0 r)), none, none, none, none] := by
    simp [ySet, Out.bind, xVar, xC, lift, xCons, xNil, xFn, Out.seal, hk']
  unfold f_command_parts partsP
  cases e : kindsP w0 r with
  | none =>
    refine Ret.run rfl (Ret.next s1 (Ret.next s2 (Ret.next s3 (Ret.first ?_))))
    rw [e]
    exact Ret.ift (ρ1 := [some (.str v), some (.list (PyData.str w0 :: sl r)), some .none, none, none, none, none]) (by simp [xOrT, xB, xBin, gIsN, isN, optT, xVar, xC, lift, Out.bind]) (Ret.of rfl)
  | some ks =>
    have s4 : xOrT (xB (xBin gIsN (xVar 2) (xC PyData.none))) (xB (xBin gNe (xCall (on1 lenD) (xCons (xVar 2) xNil)) (xBin De.gSub (xCall (on1 lenD) (xCons (xVar 1) xNil)) (xC (PyData.int 1))))) [some (.str v), some (.list (PyData.str w0 :: sl r)), some (.tuple ks), none, none, none, none] =
        .ok (!decide (ks.length = r.length)) [some (.str v), some (.list (PyData.str w0 :: sl r)), some (.tuple ks), none, none, none, none] := by
      by_cases h : ks.length = r.length
      · simp [xOrT, xB, xBin, gIsN, isN, xVar, xC, lift, Out.bind, xCall, on1, lenD, xCons, xNil, De.gSub, gII, ne_int, h]
      · have h' : ¬ ((ks.length : Int) = (r.length : Int)) := by omega
        simp [xOrT, xB, xBin, gIsN, isN, xVar, xC, lift, Out.bind, xCall, on1, lenD, xCons, xNil, De.gSub, gII, ne_int, h, h']
    by_cases h : ks.length = r.length
    · obtain ⟨y4, y5, hf⟩ := loop_parts (some (.str v)) (some (.list (PyData.str w0 :: sl r))) (some (.tuple ks)) none (ks.zip r) [] none none (hg ks e h) (by
        rw [List.length_zip, sizeLine_eq]
        simp
        omega)
      rw [List.nil_append] at hf
      obtain ⟨y6, hc⟩ := comp_any (some (.str v)) (some (.list (PyData.str w0 :: sl r))) (some (.tuple ks)) (some (.list ((ks.zip r).map fun p => res p.1 p.2))) y4 y5 ((ks.zip r).map fun p => res p.1 p.2) none
      have hz : zipMD [.tuple ks, .list (sl r)] = some ((ks.zip r).map fun p => .tuple [p.1, .str p.2]) := by
        show some (List.zipWith (fun x y => PyData.tuple [x, y]) ks (sl r)) = _
        rw [zip_map]
      have hsz : ((ks.zip r).map fun p => res p.1 p.2).length < sizeLine := by
        rw [List.length_map, List.length_zip, sizeLine_eq]
        omega
      have hcut : cutL (PyData.str w0 :: sl r) (some 1) none = sl r := cut1
      have s5 : ySet 3 (xLst xNil) [some (.str v), some (.list (PyData.str w0 :: sl r)), some (.tuple ks), none, none, none, none] = .ok .nx [some (.str v), some (.list (PyData.str w0 :: sl r)), some (.tuple ks), some (.list []), none, none, none] := by
        simp [ySet, xLst, xNil, Out.bind, lift]
      have s6 : yFor (xRng zipMD (xCons (xVar 2) (xCons (xSl (xVar 1) (xPart (xC (PyData.int 1))) xNoP) xNil))) (zTup 2 (zCons (zName 4) (zCons (zName 5) zNil))) (yApp 3 (xIf (xB (xBin gEq (xVar 4) (xC (PyData.str "word")))) (xVar 5) (xFn f_told_of_kind (xCons (xVar 4) (xCons (xVar 5) xNil)))))
          [some (.str v), some (.list (PyData.str w0 :: sl r)), some (.tuple ks), some (.list []), none, none, none] = .ok .nx [some (.str v), some (.list (PyData.str w0 :: sl r)), some (.tuple ks), some (.list ((ks.zip r).map fun p => res p.1 p.2)), y4, y5, none] := by
        have hi : xRng zipMD (xCons (xVar 2) (xCons (xSl (xVar 1) (xPart (xC (PyData.int 1))) xNoP) xNil)) [some (.str v), some (.list (PyData.str w0 :: sl r)), some (.tuple ks), some (.list []), none, none, none] = .ok ((ks.zip r).map fun p => .tuple [p.1, .str p.2]) [some (.str v), some (.list (PyData.str w0 :: sl r)), some (.tuple ks), some (.list []), none, none, none] := by
          simp [xRng, xCons, xNil, xVar, xC, lift, Out.bind, xSl, xPart, xNoP, gSl, hcut, hz]
        unfold yFor
        rw [hi]
        exact hf
      have s7 : xB (xCall (on1 (onL anyL)) (xCons (xComp (xItems (xVar 3)) (zName 6) xYes (xBin gIsN (xVar 6) (xC PyData.none)) [6]) xNil)) [some (.str v), some (.list (PyData.str w0 :: sl r)), some (.tuple ks), some (.list ((ks.zip r).map fun p => res p.1 p.2)), y4, y5, none] =
          .ok (((ks.zip r).map fun p => res p.1 p.2).any isN) [some (.str v), some (.list (PyData.str w0 :: sl r)), some (.tuple ks), some (.list ((ks.zip r).map fun p => res p.1 p.2)), y4, y5, none] := by
        have hm : ((ks.zip r).map fun p => res p.1 p.2).map (fun d => PyData.bool (isN d)) = ((ks.zip r).map fun p => res p.1 p.2).map (fun d => PyData.bool (isN d)) := rfl
        generalize (ks.zip r).map (fun p => res p.1 p.2) = fs at hc hsz ⊢
        simp [xB, xCall, on1, onL, anyL, xCons, xNil, xComp, xItems, itemsD, xVar, lift, Out.bind, hsz, wipeD, restD, hc, noexc, bools_map, List.any_map]
      refine Ret.run rfl (Ret.next s1 (Ret.next s2 (Ret.next s3 ?_)))
      rw [e]
      refine Ret.next (if_nx (s4.trans (by rw [h]; simp))) (Ret.next s5 (Ret.next s6 ?_))
      dsimp only
      rw [if_pos h]
      cases ha : (((ks.zip r).map fun p => res p.1 p.2).any isN) with
      | true =>
        rw [ha] at s7
        rw [if_pos rfl]
        exact Ret.of (ρ1 := _) (show xIf _ _ _ _ = Out.ok PyData.none _ by simp only [xIf, s7, Out.bind, if_true]; rfl)
      | false =>
        rw [ha] at s7
        rw [if_neg Bool.false_ne_true]
        have h2 : (2 : Nat) ≤ sizeLine := by decide
        refine Ret.of (ρ1 := _) (show xIf _ _ _ _ = Out.ok _ _ by simp only [xIf, s7, Out.bind, Bool.false_eq_true, if_false, xTup, xCons, xBin, xVar, xC, xNil, lift, gIx, at0, List.getElem?_cons_zero, List.getElem?_cons_succ, Option.join, List.length_cons, List.length_nil, Nat.reduceAdd, Option.bind_some, id, if_pos h2]; rfl)
    · refine Ret.run rfl (Ret.next s1 (Ret.next s2 (Ret.next s3 (Ret.first ?_))))
      rw [e]
      dsimp only
      rw [if_neg h]
      exact Ret.ift (s4.trans (by simp [h]; rfl)) (Ret.of rfl)
end C95
set_option maxHeartbeats 4000000
namespace C95
open PySem PySem.Spec L2 De
theorem cmd_eq {x d : D} (hp : ∃ ρ, f_command_parts [x] = .ok d ρ) : ∃ ρ, f_is_command [x] = .ok (.bool (!isN d)) ρ := by
  obtain ⟨ρ, hp⟩ := hp
  refine Ret.run rfl (Ret.of (ρ1 := [some x]) ?_)
  simp [xBin, gIsNotN, isN, xFn, xCons, xNil, xVar, xC, lift, Out.bind, Out.seal, hp]
def deedD : D → Bool
  | .tuple (.str w :: _) => (lookD t_DEEDS w).isSome
  | _ => false
theorem deed_eq {x d : D} (hp : ∃ ρ, f_command_parts [x] = .ok d ρ) (hd : d = .none ∨ ∃ w fs, d = .tuple [.str w, fs]) : ∃ ρ, f_is_deed [x] = .ok (.bool (deedD d)) ρ := by
  obtain ⟨ρ, hp⟩ := hp
  have s1 : ySet 1 (xFn f_command_parts (xCons (xVar 0) xNil)) [some x, none] = .ok .nx [some x, some d] := by
    simp [ySet, xFn, xCons, xNil, xVar, lift, Out.bind, Out.seal, hp]
  refine Ret.run rfl (Ret.next s1 (Ret.of (ρ1 := [some x, some d]) ?_))
  rcases hd with rfl | ⟨w, fs, rfl⟩
  · simp [xAnd, xBin, gIsNotN, isN, xVar, xC, lift, Out.bind, deedD]
  · simp [xAnd, xBin, gIsNotN, isN, xVar, xC, lift, Out.bind, deedD, xKIn, gIx, at0]
/-! ### closed values -/
def dictOf (o : Out D) : List (D × D) := match o with
  | .ok (.dict ps) _ => ps
  | _ => []
def okDict (o : Out D) : Bool := match o with
  | .ok (.dict _) _ => true
  | _ => false
theorem dict_ok {o : Out D} (h : okDict o = true) : ∃ ρ, o = .ok (.dict (dictOf o)) ρ := by
  cases o with
  | ok d ρ => cases d with
    | dict ps => exact ⟨ρ, rfl⟩
    | _ => cases h
  | _ => cases h
def listOf (o : Out D) : List D := match o with
  | .ok (.list ps) _ => ps
  | _ => []
def okList (o : Out D) : Bool := match o with
  | .ok (.list _) _ => true
  | _ => false
theorem list_ok {o : Out D} (h : okList o = true) : ∃ ρ, o = .ok (.list (listOf o)) ρ := by
  cases o with
  | ok d ρ => cases d with
    | list ps => exact ⟨ρ, rfl⟩
    | _ => cases h
  | _ => cases h
def CC : List (D × D) := dictOf (f__law_claims [])
def DD : List (D × D) := dictOf (f__law_deeds [])
def AA : List (D × D) := dictOf (f__law_asks [])
theorem cc_ok : ∃ ρ, f__law_claims [] = .ok (.dict CC) ρ := dict_ok (by decide +kernel)
theorem dd_ok : ∃ ρ, f__law_deeds [] = .ok (.dict DD) ρ := dict_ok (by decide +kernel)
theorem aa_ok : ∃ ρ, f__law_asks [] = .ok (.dict AA) ρ := dict_ok (by decide +kernel)
def shortL : D → Bool
  | .list ks => decide (ks.length ≤ 9)
  | _ => false
theorem val_short {tab : List (D × D)} (h : (tab.all fun p => shortL p.2) = true) {k : Key} {d : D} (e : valD tab k = some d) : ∃ ks, d = .list ks ∧ ks.length ≤ 9 := by
  induction tab with
  | nil => cases e
  | cons p r ih =>
    rw [List.all_cons, Bool.and_eq_true] at h
    unfold valD at e
    split at e
    · cases e
      have := h.1
      cases hp : p.2 with
      | list ks => rw [hp] at this; exact ⟨ks, rfl, of_decide_eq_true this⟩
      | _ => rw [hp] at this; cases this
    · exact ih h.2 e
theorem lC : (CC.all fun p => shortL p.2) = true := by decide +kernel
theorem lD : (DD.all fun p => shortL p.2) = true := by decide +kernel
theorem lA : (AA.all fun p => shortL p.2) = true := by decide +kernel
def lstOf : Option D → Option (List D)
  | some (.list ks) => some ks
  | _ => none
def lawK (w0 : Str) (r : List Str) : Option (List D) :=
  if w0 = "claim" then (third r).bind fun z => (lstOf (valD CC (.inr z))).map fun ks => .str "name" :: .str "same" :: ks
  else match lstOf (valD DD (.inr w0)) with
    | some ks => some ks
    | none => lstOf (valD AA (.inr w0))
def optL : Option (List D) → D
  | some ks => .list ks
  | none => .none
/-! ### what the law holds due -/
def fit (k : D) (w : Str) : Bool := match k with
  | .str kk => if kk = "same" then true else (match f__law_fits [.str kk, .str w] with
    | .ok (.bool b) _ => b
    | _ => false)
  | _ => false
def Good' (k : D) (w : Str) : Prop := ∃ kk, k = .str kk ∧ PyData.strOk kk = true ∧ (kk = "same" ∨ ∃ b ρ, f__law_fits [.str kk, .str w] = .ok (.bool b) ρ)
theorem comp_due (a0 a1 a2 a3 : Option D) : ∀ (ps : List (D × Str)) (x4 x5 : Option D), (∀ p ∈ ps, Good' p.1 p.2) → ∃ y4 y5,
    compD (zTup 2 (zCons (zName 4) (zCons (zName 5) zNil))) xYes (xOr (xBin gEq (xVar 4) (xC (PyData.str "same"))) (xFn f__law_fits (xCons (xVar 4) (xCons (xVar 5) xNil)))) [4, 5] (ps.map fun p => .tuple [p.1, .str p.2]) [a0, a1, a2, a3, x4, x5]
      = .ok (ps.map fun p => .bool (fit p.1 p.2)) [a0, a1, a2, a3, y4, y5]
  | [], x4, x5, _ => ⟨x4, x5, by simp [compD]⟩
  | (k, w) :: ps, x4, x5, hg => by
    obtain ⟨kk, e1, so, hk⟩ := hg (k, w) List.mem_cons_self
    have e1' : k = .str kk := e1
    subst e1'
    obtain ⟨y4, y5, ih⟩ := comp_due a0 a1 a2 a3 ps none none (fun p hp => hg p (List.mem_cons_of_mem _ hp))
    refine ⟨y4, y5, ?_⟩
    have key : (xOr (xBin gEq (xVar 4) (xC (PyData.str "same"))) (xFn f__law_fits (xCons (xVar 4) (xCons (xVar 5) xNil)))) [a0, a1, a2, a3, some (.str kk), some (.str w)] = .ok (.bool (fit (.str kk) w)) [a0, a1, a2, a3, some (.str kk), some (.str w)] := by
      by_cases h : kk = "same"
      · simp [xOr, xBin, xVar, xC, lift, Out.bind, eq_str, so, so_same, h, fit]
      · obtain ⟨b, ρ, e⟩ := hk.resolve_left h
        simp [xOr, xBin, xVar, xC, lift, Out.bind, eq_str, so, so_same, h, fit, xFn, xCons, xNil, Out.seal, e]
    show (((zTup 2 (zCons (zName 4) (zCons (zName 5) zNil))) (.tuple [.str kk, .str w]) [a0, a1, a2, a3, x4, x5]).bind fun _ ρ1 => _) = _
    simp only [zTup, zCons, zName, zNil, Out.bind, List.length_cons, List.length_nil, Nat.reduceAdd, if_true, List.set_cons_succ, List.set_cons_zero, xYes, key, wipeD]
    rw [ih]
    simp
theorem bools_of (bs : List Bool) : boolsOf (bs.map PyData.bool) = some bs := by
  induction bs with
  | nil => rfl
  | cons d ds ih => simp [boolsOf, ih]
def dueP (w0 : Str) (r : List Str) : Bool := match lawK w0 r with
  | none => false
  | some ks => decide (ks.length = r.length) && (ks.zip r).all fun p => fit p.1 p.2
end C95
set_option maxHeartbeats 4000000
namespace C95
open PySem PySem.Spec L2 De
theorem law_kinds (x v : D) (w0 : Str) (r : List Str) (hw : PyData.strOk w0 = true) :
    (yIf (xB (xBin gEq (xBin gIx (xVar 1) (xC (PyData.int 0))) (xC (PyData.str "claim")))) (ySet 2 (xIf (xAndT (xB (xBin gGt (xCall (on1 lenD) (xCons (xVar 1) xNil)) (xC (PyData.int 2)))) (xB (xBin gDIn (xBin gIx (xVar 1) (xC (PyData.int 2))) (xFn f__law_claims xNil)))) (xBin gAdd (xLst (xCons (xC (PyData.str "name")) (xCons (xC (PyData.str "same")) xNil))) (xBin gDIx (xFn f__law_claims xNil) (xBin gIx (xVar 1) (xC (PyData.int 2))))) (xC PyData.none))) (yIf (xB (xBin gDIn (xBin gIx (xVar 1) (xC (PyData.int 0))) (xFn f__law_deeds xNil))) (ySet 2 (xBin gDIx (xFn f__law_deeds xNil) (xBin gIx (xVar 1) (xC (PyData.int 0))))) (yIf (xB (xBin gDIn (xBin gIx (xVar 1) (xC (PyData.int 0))) (xFn f__law_asks xNil))) (ySet 2 (xBin gDIx (xFn f__law_asks xNil) (xBin gIx (xVar 1) (xC (PyData.int 0))))) yNil)))
      [some v, some (.list (PyData.str w0 :: sl r)), some .none, none, none, none] = .ok .nx [some v, some (.list (PyData.str w0 :: sl r)), some (optL (lawK w0 r)), none, none, none] := by
  obtain ⟨ρc, hc⟩ := cc_ok
  obtain ⟨ρd, hd⟩ := dd_ok
  obtain ⟨ρa, ha⟩ := aa_ok
  unfold lawK
  by_cases h : w0 = "claim"
  · rw [if_pos h]
    match r with
    | [] => simp [yIf, xIf, ySet, Out.bind, xVar, xC, lift, xBin, gIx, at0, eq_str, so_claim, hw, xB, h, xAndT, xCall, on1, lenD, xCons, xNil, gGt, gII, third, optL]
    | [_] => simp [yIf, xIf, ySet, Out.bind, xVar, xC, lift, xBin, gIx, at0, eq_str, so_claim, hw, xB, h, xAndT, xCall, on1, lenD, xCons, xNil, gGt, gII, third, optL]
    | a :: z :: r =>
      have hl : (2 : Int) < (r.length : Int) + 1 + 1 + 1 := by omega
      cases e : valD CC (.inr z) with
      | none => simp [yIf, xIf, ySet, Out.bind, xVar, xC, lift, xBin, gIx, at0, at2, eq_str, so_claim, hw, xB, h, xAndT, xCall, on1, lenD, xCons, xNil, gGt, gII, third, optL, xFn, Out.seal, hc, gDIn, keyD, e, hl, lstOf]
      | some d =>
        obtain ⟨ks, rfl, hk⟩ := val_short lC e
        have hs : 2 + ks.length ≤ sizeLine := by rw [sizeLine_eq]; omega
        have hs2 : (2 : Nat) ≤ sizeLine := by decide
        simp [yIf, xIf, ySet, Out.bind, xVar, xC, lift, xBin, gIx, at0, at2, eq_str, so_claim, hw, xB, h, xAndT, xCall, on1, lenD, xCons, xNil, gGt, gII, third, optL, xFn, Out.seal, hc, gDIn, gDIx, keyD, e, hl, lstOf, xLst, gAdd, hs, hs2]
  · rw [if_neg h]
    cases e : valD DD (.inr w0) with
    | some d =>
      obtain ⟨ks, rfl, hk⟩ := val_short lD e
      simp [yIf, xIf, ySet, Out.bind, xVar, xC, lift, xBin, gIx, at0, eq_str, so_claim, hw, xB, h, xCons, xNil, optL, xFn, Out.seal, hd, gDIn, gDIx, keyD, e, lstOf]
    | none =>
      cases e2 : valD AA (.inr w0) with
      | some d =>
        obtain ⟨ks, rfl, hk⟩ := val_short lA e2
        simp [yIf, xIf, ySet, Out.bind, xVar, xC, lift, xBin, gIx, at0, eq_str, so_claim, hw, xB, h, xCons, xNil, optL, xFn, Out.seal, hd, ha, gDIn, gDIx, keyD, e, e2, lstOf]
      | none => simp [yIf, xIf, ySet, yNil, Out.bind, xVar, xC, lift, xBin, gIx, at0, eq_str, so_claim, hw, xB, h, xCons, xNil, optL, xFn, Out.seal, hd, ha, gDIn, gDIx, keyD, e, e2, lstOf]
theorem due_eq {v w0 : Str} {r : List Str} (hs : Txt.split v " " = w0 :: r) (hl : v.length + 2 ≤ sizeLine) (hr : r.length < 1000) (hw : PyData.strOk w0 = true) (hg : ∀ ks, lawK w0 r = some ks → ks.length = r.length → ∀ p ∈ ks.zip r, Good' p.1 p.2) :
    ∃ ρ, f__law_due [.str v] = .ok (.list [.bool (dueP w0 r), .bool (dueP w0 r && !(valD AA (.inr w0)).isSome)]) ρ := by
  have hsp := split_sp hs hl
  obtain ⟨ρa, ha⟩ := aa_ok
  have h2 : (2 : Nat) ≤ sizeLine := by decide
  have hlen : (sl r).length = r.length := List.length_map ..
  have s1 : ySet 1 (xMtL splitD (xVar 0) (xCons (xC (PyData.str " ")) xNil)) [some (.str v), none, none, none, none, none] = .ok .nx [some (.str v), some (.list (PyData.str w0 :: sl r)), none, none, none, none] := by
    simp [ySet, Out.bind, xVar, xC, lift, xMtL, hsp, xCons, xNil]
  have s2 : ySet 2 (xC PyData.none) [some (.str v), some (.list (PyData.str w0 :: sl r)), none, none, none, none] = .ok .nx [some (.str v), some (.list (PyData.str w0 :: sl r)), some .none, none, none, none] := by
    simp [ySet, Out.bind, xC]
  have s3 := law_kinds .none (.str v) w0 r hw
  unfold dueP
  cases e : lawK w0 r with
  | none =>
    rw [e] at s3
    refine Ret.run rfl (Ret.next s1 (Ret.next s2 (Ret.next s3 (Ret.first ?_))))
    exact Ret.ift (ρ1 := [some (.str v), some (.list (PyData.str w0 :: sl r)), some .none, none, none, none]) (by simp [xOrT, xB, xBin, gIsN, isN, optL, xVar, xC, lift, Out.bind])
      (Ret.of (ρ1 := [some (.str v), some (.list (PyData.str w0 :: sl r)), some .none, none, none, none]) (by simp [xLst, xCons, xNil, xC, Out.bind, lift, h2]))
  | some ks =>
    rw [e] at s3
    have s4 : xOrT (xB (xBin gIsN (xVar 2) (xC PyData.none))) (xB (xBin gNe (xCall (on1 lenD) (xCons (xVar 2) xNil)) (xBin De.gSub (xCall (on1 lenD) (xCons (xVar 1) xNil)) (xC (PyData.int 1))))) [some (.str v), some (.list (PyData.str w0 :: sl r)), some (.list ks), none, none, none] =
        .ok (!decide (ks.length = r.length)) [some (.str v), some (.list (PyData.str w0 :: sl r)), some (.list ks), none, none, none] := by
      by_cases h : ks.length = r.length
      · simp [xOrT, xB, xBin, gIsN, isN, xVar, xC, lift, Out.bind, xCall, on1, lenD, xCons, xNil, De.gSub, gII, ne_int, h]
      · have h' : ¬ ((ks.length : Int) = (r.length : Int)) := by omega
        simp [xOrT, xB, xBin, gIsN, isN, xVar, xC, lift, Out.bind, xCall, on1, lenD, xCons, xNil, De.gSub, gII, ne_int, h, h']
    by_cases h : ks.length = r.length
    · obtain ⟨y4, y5, hc⟩ := comp_due (some (.str v)) (some (.list (PyData.str w0 :: sl r))) (some (.list ks)) none (ks.zip r) none none (hg ks e h)
      have hz : zipD [.list ks, .list (sl r)] = some ((ks.zip r).map fun p => .tuple [p.1, .str p.2]) := by
        show some (List.zipWith (fun x y => PyData.tuple [x, y]) ks (sl r)) = _
        rw [zip_map]
      have hcut : cutL (PyData.str w0 :: sl r) (some 1) none = sl r := cut1
      have hsz : ((ks.zip r).map fun p => PyData.tuple [p.1, .str p.2]).length < sizeLine := by
        rw [List.length_map, List.length_zip, sizeLine_eq]
        omega
      have hi : xRng zipD (xCons (xVar 2) (xCons (xSl (xVar 1) (xPart (xC (PyData.int 1))) xNoP) xNil)) [some (.str v), some (.list (PyData.str w0 :: sl r)), some (.list ks), none, none, none] = .ok ((ks.zip r).map fun p => .tuple [p.1, .str p.2]) [some (.str v), some (.list (PyData.str w0 :: sl r)), some (.list ks), none, none, none] := by
        simp [xRng, xCons, xNil, xVar, xC, lift, Out.bind, xSl, xPart, xNoP, gSl, hcut, hz]
      have hb : ((ks.zip r).map fun p => PyData.bool (fit p.1 p.2)) = ((ks.zip r).map fun p => fit p.1 p.2).map PyData.bool := by simp
      have s5 : ySet 3 (xCall (on1 (onL allL)) (xCons (xComp (xRng zipD (xCons (xVar 2) (xCons (xSl (xVar 1) (xPart (xC (PyData.int 1))) xNoP) xNil))) (zTup 2 (zCons (zName 4) (zCons (zName 5) zNil))) xYes (xOr (xBin gEq (xVar 4) (xC (PyData.str "same"))) (xFn f__law_fits (xCons (xVar 4) (xCons (xVar 5) xNil)))) [4, 5]) xNil))
          [some (.str v), some (.list (PyData.str w0 :: sl r)), some (.list ks), none, none, none] = .ok .nx [some (.str v), some (.list (PyData.str w0 :: sl r)), some (.list ks), some (.bool ((ks.zip r).all fun p => fit p.1 p.2)), none, none] := by
        rw [hb] at hc
        have ha2 : ((ks.zip r).all fun p => fit p.1 p.2) = (((ks.zip r).map fun p => fit p.1 p.2).all id) := by simp [List.all_map]
        rw [ha2]
        generalize ((ks.zip r).map fun p => fit p.1 p.2) = fs at hc ⊢
        generalize ((ks.zip r).map fun p => PyData.tuple [p.1, .str p.2]) = ts at hc hi hsz
        simp only [ySet, xCall, xCons, xComp, hi, Out.bind, if_pos hsz, wipeD, List.set_cons_succ, List.set_cons_zero, hc, noexc, on1, onL, allL, bools_of, xNil, lift, restD]
        simp [bools_of, lift]
      refine Ret.run rfl (Ret.next s1 (Ret.next s2 (Ret.next s3 (Ret.next (if_nx (s4.trans (by rw [h]; simp))) (Ret.next s5 ?_)))))
      dsimp only
      have hd : decide (ks.length = r.length) = true := decide_eq_true h
      rw [hd, Bool.true_and]
      generalize ((ks.zip r).all fun p => fit p.1 p.2) = b
      refine Ret.of (ρ1 := [some (.str v), some (.list (PyData.str w0 :: sl r)), some (.list ks), some (.bool b), none, none]) ?_
      cases b with
      | true => simp [xLst, xCons, xNil, xAnd, xVar, xC, xBin, lift, Out.bind, h2, gDNotIn, keyD, xFn, Out.seal, ha, gIx, at0]
      | false => simp [xLst, xCons, xNil, xAnd, xVar, xC, xBin, lift, Out.bind, h2]
    · refine Ret.run rfl (Ret.next s1 (Ret.next s2 (Ret.next s3 (Ret.first ?_))))
      dsimp only
      have hd : decide (ks.length = r.length) = false := decide_eq_false h
      rw [hd, Bool.false_and, Bool.false_and]
      exact Ret.ift (s4.trans (by simp [h]; rfl)) (Ret.of (ρ1 := [some (.str v), some (.list (PyData.str w0 :: sl r)), some (.list ks), none, none, none]) (by simp [xLst, xCons, xNil, xC, Out.bind, lift, h2]))
end C95
set_option maxHeartbeats 0
namespace C95
open PySem PySem.Spec L2 De
def W0 : List Str := ["p", "q", "abcdefgh", "a1", "z9z", "k", "c", "A", "1a", "abcdefghi", "a_b", "", "q2", "0", "7", "12", "99", "2", "012", "100"]
def W1 : List Str := ["-1", "08", "a", "-3", "123456", "-999999", "5", "-0", "1234567", "-01", "--1", "-", "xx-2yy", "-x+y-3", "tt-2", "-t", "t:t:t", "tt:ttt:1", "x+2y:y-1", "x:x"]
def W2 : List Str := ["y:-x", "xy:x", "x-", "+", "01", "x:", "t:t", "tttttt:t:1", "1234567x", "123456x", "xxxxxxxxx", "x+x+x+x+x+x+x+x+x+x+x+x+x+x+x+x+x+x+x+x+x+x+x+x+x+x+x+x+x+x+x+x+x+x+x+x+x+x+x+x+y", "x+x+x+x+x+x+x+x+x+x+x+x+x+x+x+x+x+x+x+x+x+x+x+x+x+x+x+x+x+x+x+x+x+x+x+x+x+x+x+xy", "3", "3:t:1", "3:y", "x--y", "t+x", "2x3", "tttttttttttt"]
def W3 : List Str := ["Plane", "planes", "claim", "names", "undo", "sum", "plane", "line", "curve", "change", "drop", "forget", "less", "times", "common", "over", "led", "drawn", "plain", "swap"]
def W4 : List Str := ["slope", "parting", "equation", "turn", "mult", "lead", "row", "redo", "states", "same", "value", "state", "claimed", "show", "pieces", "bound", "parts", "clean", "whole", "lesser"]
def W5 : List Str := ["passes", "count", "good", "at", "along", "aside", "within", "outside", "otherwise", "degrees", "unlike", "double", "splits"]
def WALL : List Str := W0 ++ W1 ++ W2 ++ W3 ++ W4 ++ W5
def KN : List (Str × Str) := [("plane", "name"), ("line", "name"), ("curve", "name"), ("change", "name"), ("new", "name"), ("label", "name"), ("any", "name"), ("other", "name")]
def KC : List (Str × Str) := [("count", "count"), ("number", "number")]
def KX : List (Str × Str) := [("plane text", "plane"), ("line text", "line"), ("curve text", "curve"), ("change text", "change")]
def V0 : List Str := ["p", "q", "abcdefgh", "a1", "z9z", "k", "c", "A", "1a", "abcdefghi", "a_b", "", "q2", "xx-2yy", "0", "-x+y-3", "tt-2", "-t", "t:t:t", "tt:ttt:1"]
def V1 : List Str := ["x+2y:y-1", "x:x", "y:-x", "xy:x", "x-", "+", "01", "x:", "t:t", "tttttt:t:1", "1234567x", "123456x", "xxxxxxxxx", "x+x+x+x+x+x+x+x+x+x+x+x+x+x+x+x+x+x+x+x+x+x+x+x+x+x+x+x+x+x+x+x+x+x+x+x+x+x+x+x+y", "x+x+x+x+x+x+x+x+x+x+x+x+x+x+x+x+x+x+x+x+x+x+x+x+x+x+x+x+x+x+x+x+x+x+x+x+x+x+x+xy", "3", "3:t:1", "3:y", "x--y", "t+x"]
def V2 : List Str := ["2x3", "tttttttttttt"]
/-- the words that stand where a text is told -/
def TW : List Str := V0 ++ V1 ++ V2
def TH : List Str := ["plane", "line", "curve", "change"]
/-- both looks at a word agree -/
def chk (k k' w : Str) : Bool := match f_told_of_kind [.str k, .str w], f__law_fits [.str k', .str w] with
  | .ok d _, .ok (.bool b) _ => isN d == !b
  | _, _ => false
theorem cN : (KN.all fun p => WALL.all fun w => chk p.1 p.2 w) = true := by decide +kernel
theorem cC : (KC.all fun p => WALL.all fun w => chk p.1 p.2 w) = true := by decide +kernel
theorem cT : (KN.all fun p => TW.all fun w => chk p.1 p.2 w) = true := by decide +kernel
theorem cX : (KX.all fun p => TW.all fun w => chk p.1 p.2 w) = true := by decide +kernel
end C95
set_option maxHeartbeats 4000000
namespace C95
open PySem PySem.Spec L2 De
def pairB (P : List (Str × Str)) (k k' : D) : Bool := match k, k' with
  | .str x, .str y => decide ((x, y) ∈ (("word" : Str), ("same" : Str)) :: P)
  | _, _ => false
def relL (P : List (Str × Str)) : List D → List D → Bool
  | [], [] => true
  | k :: ks, k' :: ks' => pairB P k k' && relL P ks ks'
  | _, _ => false
def relK (P : List (Str × Str)) : Option (List D) → Option (List D) → Bool
  | none, none => true
  | some ks, some ks' => relL P ks ks'
  | _, _ => false
def okP (P : List (Str × Str)) : Bool := P.all fun p => PyData.strOk p.1 && PyData.strOk p.2 && !decide (p.1 = "word") && !decide (p.2 = "same")
/-- pairs of kinds, words: every look agrees -/
structure Fair (P : List (Str × Str)) (Wl : List Str) : Prop where
  ok : okP P = true
  all : (P.all fun p => Wl.all fun w => chk p.1 p.2 w) = true
theorem fair1 : Fair (KN ++ KC) WALL := ⟨by decide +kernel, by rw [List.all_append, cN, cC]; rfl⟩
theorem fair2 : Fair (KN ++ KX) TW := ⟨by decide +kernel, by rw [List.all_append, cT, cX]; rfl⟩
theorem wOk : (WALL.all fun w => PyData.strOk w && !(w.cps.toList.contains 32) && decide (w.length ≤ 100)) = true := by decide +kernel
theorem k0 : (WALL.all fun w0 => (decide (w0 = "claim") || decide (w0 ∈ TH)) || relK (KN ++ KC) (kindsP w0 []) (lawK w0 [])) = true := by decide +kernel
theorem kT : (TH.all fun w0 => relK (KN ++ KX) (kindsP w0 []) (lawK w0 []) && !decide (w0 = "claim")) = true := by decide +kernel
theorem k2 : (WALL.all fun z => relK (KN ++ KC) (kindsP "claim" ["", z]) (lawK "claim" ["", z])) = true := by decide +kernel
theorem kD : (WALL.all fun w0 => !((lawK w0 []).isSome || decide (w0 = "claim")) || ((lookD t_DEEDS w0).isSome == !(valD AA (.inr w0)).isSome)) = true := by decide +kernel
variable {P : List (Str × Str)} {Wl : List Str}
theorem chk_of (fr : Fair P Wl) {k k' w : Str} (hp : (k, k') ∈ P) (hw : w ∈ Wl) : ∃ d b, (∃ ρ, f_told_of_kind [.str k, .str w] = .ok d ρ) ∧ (∃ ρ, f__law_fits [.str k', .str w] = .ok (.bool b) ρ) ∧ isN d = !b := by
  have h := List.all_eq_true.mp (List.all_eq_true.mp fr.all (k, k') hp) w hw
  unfold chk at h
  dsimp only at h
  cases e1 : f_told_of_kind [.str k, .str w] with
  | ok d ρ =>
    cases e2 : f__law_fits [.str k', .str w] with
    | ok x ρ' =>
      rw [e1, e2] at h
      cases x with
      | bool b => exact ⟨d, b, ⟨ρ, rfl⟩, ⟨ρ', rfl⟩, by simpa using h⟩
      | _ => cases h
    | exc _ _ _ => rw [e1, e2] at h; cases h
    | bad => rw [e1, e2] at h; cases h
  | exc _ _ _ => rw [e1] at h; cases h
  | bad => rw [e1] at h; cases h
theorem pair_of (fr : Fair P Wl) {k k' : D} {w : Str} (h : pairB P k k' = true) (hw : w ∈ Wl) : Good k w ∧ Good' k' w ∧ isN (res k w) = !fit k' w := by
  cases k with
  | str x => cases k' with
    | str y =>
      have hm : (x, y) ∈ (("word" : Str), ("same" : Str)) :: P := of_decide_eq_true h
      rcases List.mem_cons.mp hm with e | hm
      · obtain ⟨rfl, rfl⟩ := Prod.mk.inj e
        exact ⟨⟨_, rfl, so_word, .inl rfl⟩, ⟨_, rfl, so_same, .inl rfl⟩, by simp [res, fit, isN]⟩
      · have ho := List.all_eq_true.mp fr.ok (x, y) hm
        simp only [Bool.and_eq_true, Bool.not_eq_true', decide_eq_false_iff_not] at ho
        obtain ⟨⟨⟨o1, o2⟩, n1⟩, n2⟩ := ho
        obtain ⟨d, b, ⟨ρ, h1⟩, ⟨ρ', h2⟩, h3⟩ := chk_of fr hm hw
        refine ⟨⟨x, rfl, o1, .inr ⟨d, ρ, h1⟩⟩, ⟨y, rfl, o2, .inr ⟨b, ρ', h2⟩⟩, ?_⟩
        simp [res, fit, n1, n2, h1, h2, h3]
    | _ => cases h
  | _ => cases h
theorem rel_len : ∀ {ks ks' : List D}, relL P ks ks' = true → ks.length = ks'.length
  | [], [], _ => rfl
  | [], _ :: _, h => by cases h
  | _ :: _, [], h => by cases h
  | k :: ks, k' :: ks', h => by
    unfold relL at h
    rw [Bool.and_eq_true] at h
    simp [rel_len h.2]
theorem rel_all (fr : Fair P Wl) : ∀ {ks ks' : List D} {r : List Str}, relL P ks ks' = true → (∀ w ∈ r, w ∈ Wl) → (∀ p ∈ ks.zip r, Good p.1 p.2) ∧ (∀ p ∈ ks'.zip r, Good' p.1 p.2) ∧ ((ks.zip r).map fun p => res p.1 p.2).any isN = !((ks'.zip r).all fun p => fit p.1 p.2)
  | [], [], r, _, _ => by simp
  | [], _ :: _, _, h, _ => by cases h
  | _ :: _, [], _, h, _ => by cases h
  | k :: ks, k' :: ks', [], h, _ => by simp
  | k :: ks, k' :: ks', w :: r, h, hw => by
    unfold relL at h
    rw [Bool.and_eq_true] at h
    obtain ⟨g1, g2, g3⟩ := pair_of fr h.1 (hw w List.mem_cons_self)
    obtain ⟨i1, i2, i3⟩ := rel_all fr (r := r) h.2 fun z hz => hw z (List.mem_cons_of_mem _ hz)
    refine ⟨fun p hp => ?_, fun p hp => ?_, ?_⟩
    · rcases List.mem_cons.mp hp with rfl | hp
      · exact g1
      · exact i1 p hp
    · rcases List.mem_cons.mp hp with rfl | hp
      · exact g2
      · exact i2 p hp
    · simp only [List.zip_cons_cons, List.map_cons, List.any_cons, List.all_cons, g3, i3, Bool.not_and]
theorem kinds_rel {w0 : Str} {r : List Str} (h0 : w0 ∈ WALL) (hr : ∀ w ∈ r, w ∈ WALL) (ht : w0 ∈ TH → ∀ w ∈ r, w ∈ TW) : ∃ P Wl, Fair P Wl ∧ relK P (kindsP w0 r) (lawK w0 r) = true ∧ ∀ w ∈ r, w ∈ Wl := by
  by_cases hT : w0 ∈ TH
  · have := List.all_eq_true.mp kT w0 hT
    rw [Bool.and_eq_true, Bool.not_eq_true', decide_eq_false_iff_not] at this
    refine ⟨_, _, fair2, ?_, ht hT⟩
    have e1 : kindsP w0 r = kindsP w0 [] := by simp [kindsP, this.2]
    have e2 : lawK w0 r = lawK w0 [] := by simp [lawK, this.2]
    rw [e1, e2]
    exact this.1
  · refine ⟨_, _, fair1, ?_, hr⟩
    by_cases h : w0 = "claim"
    · subst h
      match r with
      | [] => simp [kindsP, lawK, third, relK]
      | [_] => simp [kindsP, lawK, third, relK]
      | a :: z :: r =>
        have := List.all_eq_true.mp k2 z (hr z (by simp))
        have e1 : kindsP "claim" (a :: z :: r) = kindsP "claim" ["", z] := by simp [kindsP, third]
        have e2 : lawK "claim" (a :: z :: r) = lawK "claim" ["", z] := by simp [lawK, third]
        rw [e1, e2]
        exact this
    · have := List.all_eq_true.mp k0 w0 h0
      rw [Bool.or_eq_true, Bool.or_eq_true, decide_eq_true_eq, decide_eq_true_eq] at this
      have e1 : kindsP w0 r = kindsP w0 [] := by simp [kindsP, h]
      have e2 : lawK w0 r = lawK w0 [] := by simp [lawK, h]
      rw [e1, e2]
      exact this.resolve_left fun z => z.elim h hT
theorem deed_flag {w0 : Str} {r : List Str} (h0 : w0 ∈ WALL) (h : (lawK w0 r).isSome = true) : (lookD t_DEEDS w0).isSome = !(valD AA (.inr w0)).isSome := by
  have := List.all_eq_true.mp kD w0 h0
  rw [Bool.or_eq_true, Bool.not_eq_true', beq_iff_eq] at this
  refine this.resolve_left fun z => ?_
  rw [Bool.or_eq_false_iff, decide_eq_false_iff_not] at z
  have e2 : lawK w0 r = lawK w0 [] := by simp [lawK, z.2]
  rw [e2, z.1] at h
  cases h
/-- the program and the law agree on these words -/
theorem agree {v w0 : Str} {r : List Str} (hs : Txt.split v " " = w0 :: r) (hl : v.length + 2 ≤ sizeLine) (hn : r.length < 1000) (h0 : w0 ∈ WALL) (hr : ∀ w ∈ r, w ∈ WALL) (ht : w0 ∈ TH → ∀ w ∈ r, w ∈ TW) :
    ∃ c d, (∃ ρ, f_is_command [.str v] = .ok (.bool c) ρ) ∧ (∃ ρ, f_is_deed [.str v] = .ok (.bool d) ρ) ∧ ∃ ρ, f__law_due [.str v] = .ok (.list [.bool c, .bool d]) ρ := by
  have hw : PyData.strOk w0 = true := by
    have := List.all_eq_true.mp wOk w0 h0
    simp only [Bool.and_eq_true] at this
    exact this.1.1
  obtain ⟨P, Wl, fr, rel, hrw⟩ := kinds_rel h0 hr ht
  have hg : ∀ ks, kindsP w0 r = some ks → ks.length = r.length → ∀ p ∈ ks.zip r, Good p.1 p.2 := fun ks e _ => by
    rw [e] at rel
    cases e2 : lawK w0 r with
    | none => rw [e2] at rel; cases rel
    | some ks' => rw [e2] at rel; exact (rel_all fr (r := r) rel hrw).1
  have hg' : ∀ ks, lawK w0 r = some ks → ks.length = r.length → ∀ p ∈ ks.zip r, Good' p.1 p.2 := fun ks e _ => by
    rw [e] at rel
    cases e2 : kindsP w0 r with
    | none => rw [e2] at rel; cases rel
    | some ks' => rw [e2] at rel; exact (rel_all fr (r := r) rel hrw).2.1
  have hp := parts_eq hs hl hn hw hg
  have hdue := due_eq hs hl hn hw hg'
  have hdD : partsP w0 r = .none ∨ ∃ w fs, partsP w0 r = .tuple [.str w, fs] := by
    unfold partsP
    split
    · exact .inl rfl
    · split
      · split
        · exact .inl rfl
        · exact .inr ⟨_, _, rfl⟩
      · exact .inl rfl
  have ec : (!isN (partsP w0 r)) = dueP w0 r ∧ deedD (partsP w0 r) = (dueP w0 r && !(valD AA (.inr w0)).isSome) := by
    unfold partsP dueP
    cases e : kindsP w0 r with
    | none =>
      cases e2 : lawK w0 r with
      | none => exact ⟨rfl, rfl⟩
      | some _ => rw [e, e2] at rel; cases rel
    | some ks =>
      cases e2 : lawK w0 r with
      | none => rw [e, e2] at rel; cases rel
      | some ks' =>
        rw [e, e2] at rel
        have hlen := rel_len (ks := ks) (ks' := ks') rel
        have hall := (rel_all fr (r := r) (ks := ks) (ks' := ks') rel hrw).2.2
        have hflag := deed_flag (r := r) h0 (by rw [e2]; rfl)
        dsimp only
        by_cases h : ks.length = r.length
        · rw [if_pos h, decide_eq_true (by omega), Bool.true_and, hall]
          cases (ks'.zip r).all fun p => fit p.1 p.2 with
          | true => simp [isN, deedD, hflag]
          | false => simp [isN, deedD]
        · rw [if_neg h, decide_eq_false (by omega)]
          simp [isN, deedD]
  refine ⟨dueP w0 r, dueP w0 r && !(valD AA (.inr w0)).isSome, ?_, ?_, hdue⟩
  · have := cmd_eq hp
    rw [ec.1] at this
    exact this
  · have := deed_eq hp hdD
    rw [ec.2] at this
    exact this
end C95
set_option maxHeartbeats 4000000
namespace C95
open PySem PySem.Spec L2 De
def Pot (d : D) : Prop := ∃ a b : Int, d = .list [.int a, .int b] ∧ 0 ≤ a ∧ 0 ≤ b ∧ b < 4294967296
def Drew (o : Out D) (P : D → Prop) : Prop := ∃ z ρ pot', o = .ok z ρ ∧ ρ[0]?.join = some pot' ∧ Pot pot' ∧ P z
theorem at1 {α : Type} {a d : α} {r : List α} : L2.atI (a :: d :: r) 1 = some d := by
  unfold L2.atI
  have : ixN (a :: d :: r).length 1 = some 1 := by
    unfold ixN
    simp
    omega
  rw [this]
  rfl
theorem ix20 : ixN 2 0 = some 0 := rfl
theorem ix21 : ixN 2 1 = some 1 := rfl
theorem ok_m (i j : Int) (h : j = 44017) : okMul i j = true := by subst h; simp [okMul]
theorem ok_b (i : Int) (h0 : 0 ≤ i) (h : i < 4294967296) : okMul i i = true := by
  simp only [okMul, Bool.or_eq_true, Bool.and_eq_true, decide_eq_true_eq]
  exact .inl ⟨by omega, by omega⟩
theorem draw_ok {pot : D} {m : Int} (hp : Pot pot) (h0 : 0 < m) (h1 : m < 1073741824) : Drew (f__law_draw [pot, .int m]) fun z => ∃ k : Int, z = .int k ∧ 0 ≤ k ∧ k < m := by
  obtain ⟨a, b, rfl, ha, hb, hb2⟩ := hp
  have s0 : xB (xBin gGt (xIxS 0 (xC (PyData.int 0))) (xC (PyData.int 0))) [some (.list [.int a, .int b]), some (.int m), none] = .ok (decide (0 < a)) [some (.list [.int a, .int b]), some (.int m), none] := by
    simp [xB, xBin, xIxS, xC, lift, Out.bind, gIx, at0, gGt, gII]
  by_cases h : 0 < a
  · refine ⟨.int (a % m), [some (.list [.int (a / m), .int b]), some (.int m), some (.int (a % m))], .list [.int (a / m), .int b], ?_, rfl, ⟨a / m, b, rfl, Int.ediv_nonneg ha (by omega), hb, hb2⟩, a % m, rfl, Int.emod_nonneg _ (by omega), Int.emod_lt_of_pos _ h0⟩
    unfold f__law_draw runB b__law_draw
    simp [ySeq, yIf, xIf, s0, h, h0, h1, Out.bind, yAsg, xCall, on2, divmodD, xCons, xNil, xIxS, xC, lift, gIx, at0, xVar, zTup, zCons, zNil, zIx, zName, ix20, yRet]
  · have hb3 : 0 ≤ (b * 44017 + 877) % 2147483629 := Int.emod_nonneg _ (by omega)
    have hb4 : (b * 44017 + 877) % 2147483629 < 2147483629 := Int.emod_lt_of_pos _ (by omega)
    have om := ok_m b 44017 rfl
    have ob := ok_b ((b * 44017 + 877) % 2147483629) hb3 (by omega)
    refine ⟨.int ((b * 44017 + 877) % 2147483629 * ((b * 44017 + 877) % 2147483629) % 2147483587 / 13 % m), [some (.list [.int a, .int ((b * 44017 + 877) % 2147483629)]), some (.int m), none], .list [.int a, .int ((b * 44017 + 877) % 2147483629)], ?_, rfl, ⟨a, _, rfl, ha, hb3, by omega⟩, _, rfl, Int.emod_nonneg _ (by omega), Int.emod_lt_of_pos _ h0⟩
    unfold f__law_draw runB b__law_draw
    simp [ySeq, yIf, xIf, yNil, s0, h, h0, h1, Out.bind, yAsg, xCall, on1, intD, xCons, xNil, xIxS, xC, lift, gIx, at1, xVar, zIx, ix21, yRet, xBin, gAdd, gMul, gMod, gDiv, gII, om, ob]
theorem fn1_ok {g : List D → Out D} {fs : De.Env → Out (List D)} {ρ ρ1 : De.Env} {pot pot0 : D} {ds : List D} {P : D → Prop} (e0 : ρ[0]?.join = some pot0) (hf : fs ρ = .ok ds ρ1) (e1 : ρ1[0]?.join = some pot) (hd : Drew (g (pot :: ds)) P) :
    ∃ z pot', xFn1 0 g fs ρ = .ok z (ρ1.set 0 (some pot')) ∧ Pot pot' ∧ P z := by
  obtain ⟨z, ρ2, pot', h1, h2, h3, h4⟩ := hd
  refine ⟨z, pot', ?_, h3, h4⟩
  simp [xFn1, e0, hf, e1, Out.bind, h1, sealAt, h2]
theorem pick_ok {pot : D} {xs : List D} (hp : Pot pot) (h0 : 0 < xs.length) (h1 : xs.length < 1000) : Drew (f__law_pick [pot, .list xs]) fun z => z ∈ xs := by
  have hd := draw_ok (m := (xs.length : Int)) hp (by omega) (by omega)
  have hf : xCons (xCall (on1 lenD) (xCons (xVar 1) xNil)) xNil [some pot, some (.list xs)] = .ok [.int xs.length] [some pot, some (.list xs)] := by
    simp [xCons, xNil, xCall, on1, lenD, xVar, lift, Out.bind]
  obtain ⟨z, pot', e, hp', k, rfl, hk0, hk1⟩ := fn1_ok (ρ := [some pot, some (.list xs)]) (ρ1 := [some pot, some (.list xs)]) rfl hf rfl hd
  have hlt : k.toNat < xs.length := by omega
  have hat : L2.atI xs k = some xs[k.toNat] := by
    unfold L2.atI ixN
    rw [if_pos hk0, if_pos hk1]
    exact List.getElem?_eq_getElem hlt
  refine ⟨xs[k.toNat], [some pot', some (.list xs)], pot', ?_, rfl, hp', List.getElem_mem hlt⟩
  unfold f__law_pick runB b__law_pick
  simp [yRet, xBin, xVar, lift, Out.bind, e, gIx, hat]
end C95
set_option maxHeartbeats 4000000
namespace C95
open PySem PySem.Spec L2 De
def M1 : List D := [PyData.str "p", PyData.str "q", PyData.str "p", PyData.str "abcdefgh", PyData.str "a1", PyData.str "z9z", PyData.str "p", PyData.str "q", PyData.str "k", PyData.str "c", PyData.str "A", PyData.str "1a", PyData.str "abcdefghi", PyData.str "a_b", PyData.str ""]
def M2 : List D := [PyData.str "p", PyData.str "q2"]
def MC : List D := [PyData.str "0", PyData.str "7", PyData.str "12", PyData.str "99", PyData.str "2", PyData.str "012", PyData.str "100", PyData.str "-1", PyData.str "08", PyData.str "a"]
def MN : List D := [PyData.str "0", PyData.str "-3", PyData.str "123456", PyData.str "-999999", PyData.str "5", PyData.str "-0", PyData.str "1234567", PyData.str "-01", PyData.str "--1", PyData.str "-"]
def R_plane : List D := [PyData.str "xx-2yy", PyData.str "0", PyData.str "-x+y-3", PyData.str "123456x", PyData.str "x+x+x+x+x+x+x+x+x+x+x+x+x+x+x+x+x+x+x+x+x+x+x+x+x+x+x+x+x+x+x+x+x+x+x+x+x+x+x+xy", PyData.str "3"]
def R_line : List D := [PyData.str "0", PyData.str "tt-2", PyData.str "-t", PyData.str "3", PyData.str "tttttttttttt"]
def R_curve : List D := [PyData.str "t:t:t", PyData.str "tt:ttt:1", PyData.str "3:t:1"]
def R_change : List D := [PyData.str "x+2y:y-1", PyData.str "x:x", PyData.str "y:-x", PyData.str "3:y"]
def PK : List Str := ["name", "count", "number", "plane", "line", "curve", "change"]
def NK : List Str := ["name", "plane", "line", "curve", "change"]
def inWs (Wl : List Str) (z : D) : Bool := match z with
  | .str w => decide (w ∈ Wl)
  | _ => false
theorem inWs_ok {Wl : List Str} {z : D} (h : inWs Wl z = true) : ∃ w, z = .str w ∧ w ∈ Wl := by
  cases z with
  | str w => exact ⟨w, rfl, of_decide_eq_true h⟩
  | _ => cases h
def TX : List D := listOf (f__law_texts [])
theorem tx_ok : ∃ ρ, f__law_texts [] = .ok (.list TX) ρ := list_ok (by decide +kernel)
def firstIn (z : D) : Bool := match z with
  | .tuple [.str t, _] => decide (t ∈ TW)
  | _ => false
theorem txW : (TX.all firstIn && decide (0 < TX.length) && decide (TX.length < 1000)) = true := by decide +kernel
theorem tw_wall : (TW.all fun w => decide (w ∈ WALL)) = true := by decide +kernel
theorem m1W : (M1.all (inWs TW)) = true := by decide +kernel
theorem m2W : (M2.all (inWs TW)) = true := by decide +kernel
theorem mcW : (MC.all (inWs WALL)) = true := by decide +kernel
theorem mnW : (MN.all (inWs WALL)) = true := by decide +kernel
theorem pkOk : (PK.all fun k => PyData.strOk k) = true := by decide +kernel
theorem r_planeW : (R_plane.all (inWs TW)) = true := by decide +kernel
theorem r_lineW : (R_line.all (inWs TW)) = true := by decide +kernel
theorem r_curveW : (R_curve.all (inWs TW)) = true := by decide +kernel
theorem r_changeW : (R_change.all (inWs TW)) = true := by decide +kernel
theorem so_name : PyData.strOk "name" = true := by decide +kernel
theorem so_count : PyData.strOk "count" = true := by decide +kernel
theorem so_number : PyData.strOk "number" = true := by decide +kernel
def rightF : De.Env → Out D := xComp (xItems (xFn f__law_texts xNil)) (zTup 2 (zCons (zName 3) (zCons (zName 4) zNil))) (xB (xBin gIn (xVar 1) (xVar 4))) (xVar 3) [3, 4]
theorem right_plane (o : Option D) : rightF [o, some (.str "plane"), none, none, none] = .ok (.list R_plane) [o, some (.str "plane"), none, none, none] := by kernel_rfl
theorem right_line (o : Option D) : rightF [o, some (.str "line"), none, none, none] = .ok (.list R_line) [o, some (.str "line"), none, none, none] := by kernel_rfl
theorem right_curve (o : Option D) : rightF [o, some (.str "curve"), none, none, none] = .ok (.list R_curve) [o, some (.str "curve"), none, none, none] := by kernel_rfl
theorem right_change (o : Option D) : rightF [o, some (.str "change"), none, none, none] = .ok (.list R_change) [o, some (.str "change"), none, none, none] := by kernel_rfl
/-- ends in a return, the pot as it should be -/
def DrewR (o : Out SO) (P : D → Prop) : Prop := ∃ z ρ pot', o = .ok (.ret z) ρ ∧ ρ[0]?.join = some pot' ∧ Pot pot' ∧ P z
section
variable {u w : De.Env → Out SO} {t : De.Env → Out Bool} {f : De.Env → Out D} {ρ ρ1 : De.Env} {P : D → Prop}
theorem DrewR.next (h : u ρ = .ok .nx ρ1) (k : DrewR (w ρ1) P) : DrewR (ySeq u w ρ) P := by
  obtain ⟨z, ρ2, pot', k, k2⟩ := k
  exact ⟨z, ρ2, pot', by simp [ySeq, h, Out.bind, k], k2⟩
theorem DrewR.first (k : DrewR (u ρ) P) : DrewR (ySeq u w ρ) P := by
  obtain ⟨z, ρ2, pot', k, k2⟩ := k
  exact ⟨z, ρ2, pot', by simp [ySeq, Out.bind, k], k2⟩
theorem DrewR.ift (h : t ρ = .ok true ρ1) (k : DrewR (u ρ1) P) : DrewR (yIf t u w ρ) P := by
  obtain ⟨z, ρ2, pot', k, k2⟩ := k
  exact ⟨z, ρ2, pot', by simp [yIf, xIf, h, Out.bind, k], k2⟩
theorem DrewR.of (k : Drew (f ρ) P) : DrewR (yRet f ρ) P := by
  obtain ⟨z, ρ2, pot', k, k2⟩ := k
  exact ⟨z, ρ2, pot', by simp [yRet, Out.bind, k], k2⟩
theorem DrewR.run {N n : Nat} {rm : SK} {b : De.Env → Out SO} {ds : List D} (hn : ds.length = n) (h : DrewR (b (ds.map some ++ List.replicate (N - n) none)) P) : Drew (runB N n rm b ds) P := by
  obtain ⟨z, ρ2, pot', h, k2⟩ := h
  refine ⟨z, ρ2, pot', ?_, k2⟩
  unfold runB
  rw [if_pos hn, h]
  rfl
theorem Drew.imp {o : Out D} {Q : D → Prop} (h : Drew o P) (i : ∀ z, P z → Q z) : Drew o Q := by
  obtain ⟨z, ρ2, pot', h, k1, k2, k3⟩ := h
  exact ⟨z, ρ2, pot', h, k1, k2, i z k3⟩
end
theorem draw_test {pot : D} (hp : Pot pot) (rest : De.Env) (m c : Int) (h0 : 0 < m) (h1 : m < 1073741824) : ∃ b pot', xB (xBin gEq (xFn1 0 f__law_draw (xCons (xC (PyData.int m)) xNil)) (xC (PyData.int c))) (some pot :: rest) = .ok b (some pot' :: rest) ∧ Pot pot' := by
  obtain ⟨z, pot', e, hp', k, rfl, _⟩ := fn1_ok (ρ := some pot :: rest) (ρ1 := some pot :: rest) (fs := xCons (xC (PyData.int m)) xNil) rfl (by simp [xCons, xNil, xC, Out.bind]) rfl (draw_ok hp h0 h1)
  refine ⟨decide (k = c), pot', ?_, hp'⟩
  simp [xB, xBin, xC, lift, Out.bind, e, eq_int]
theorem pick_in {pot : D} {rest : De.Env} {fs : De.Env → Out (List D)} {xs : List D} {pot1 : D} (hf : fs (some pot :: rest) = .ok [.list xs] (some pot1 :: rest)) (hp : Pot pot1) (h0 : 0 < xs.length) (h1 : xs.length < 1000) : Drew (xFn1 0 f__law_pick fs (some pot :: rest)) fun z => z ∈ xs := by
  obtain ⟨z, pot', e, hp', hz⟩ := fn1_ok (ρ := some pot :: rest) (ρ1 := some pot1 :: rest) rfl hf rfl (pick_ok hp h0 h1)
  exact ⟨z, _, pot', e, rfl, hp', hz⟩
theorem part_ok {pot : D} {kind : Str} (hp : Pot pot) (hk : kind ∈ PK) : Drew (f__law_part [pot, .str kind]) fun z => ∃ w, z = .str w ∧ w ∈ WALL ∧ (kind ∈ NK → w ∈ TW) := by
  have so : PyData.strOk kind = true := List.all_eq_true.mp pkOk kind hk
  have toW : ∀ {xs : List D} {z : D}, xs.all (inWs TW) = true → z ∈ xs → ∃ w, z = .str w ∧ w ∈ WALL ∧ (kind ∈ NK → w ∈ TW) := fun h hz => by
    obtain ⟨w, e, hw⟩ := inWs_ok (List.all_eq_true.mp h _ hz)
    exact ⟨w, e, of_decide_eq_true (List.all_eq_true.mp tw_wall w hw), fun _ => hw⟩
  have t1 : ∃ b pot', xOrT (xB (xBin gEq (xVar 1) (xC (PyData.str "name")))) (xB (xBin gEq (xFn1 0 f__law_draw (xCons (xC (PyData.int 12)) xNil)) (xC (PyData.int 0)))) [some pot, some (.str kind), none, none, none] = .ok b [some pot', some (.str kind), none, none, none] ∧ Pot pot' ∧ (kind = "name" → b = true) := by
    by_cases h : kind = "name"
    · exact ⟨true, pot, by simp [xOrT, xB, xBin, xVar, xC, lift, Out.bind, eq_str, so, so_name, h], hp, fun _ => rfl⟩
    · obtain ⟨b, pot', e, hp'⟩ := draw_test hp [some (.str kind), none, none, none] 12 0 (by decide) (by decide)
      refine ⟨b, pot', ?_, hp', fun z => absurd z h⟩
      have e1 : xB (xBin gEq (xVar 1) (xC (PyData.str "name"))) [some pot, some (.str kind), none, none, none] = .ok false [some pot, some (.str kind), none, none, none] := by
        simp [xB, xBin, xVar, xC, lift, Out.bind, eq_str, so, so_name, h]
      unfold xOrT
      rw [e1]
      exact e
  obtain ⟨b, pot1, e1, hp1, hb⟩ := t1
  refine DrewR.run rfl ?_
  cases b with
  | true =>
    refine DrewR.first (DrewR.ift e1 (DrewR.of ?_))
    obtain ⟨c, pot2, e2, hp2⟩ := draw_test hp1 [some (.str kind), none, none, none] 3 0 (by decide) (by decide)
    cases c with
    | true =>
      have hf : xCons (xIf (xB (xBin gEq (xFn1 0 f__law_draw (xCons (xC (PyData.int 3)) xNil)) (xC (PyData.int 0)))) (xLst (xCons (xC (PyData.str "p")) (xCons (xC (PyData.str "q")) (xCons (xC (PyData.str "p")) (xCons (xC (PyData.str "abcdefgh")) (xCons (xC (PyData.str "a1")) (xCons (xC (PyData.str "z9z")) (xCons (xC (PyData.str "p")) (xCons (xC (PyData.str "q")) (xCons (xC (PyData.str "k")) (xCons (xC (PyData.str "c")) (xCons (xC (PyData.str "A")) (xCons (xC (PyData.str "1a")) (xCons (xC (PyData.str "abcdefghi")) (xCons (xC (PyData.str "a_b")) (xCons (xC (PyData.str "")) xNil)))))))))))))))) (xLst (xCons (xC (PyData.str "p")) (xCons (xC (PyData.str "q2")) xNil)))) xNil [some pot1, some (.str kind), none, none, none] = .ok [.list M1] [some pot2, some (.str kind), none, none, none] := by
        have h15 : (15 : Nat) ≤ sizeLine := by decide
        simp [xCons, xNil, xIf, e2, Out.bind, xLst, xC, lift, h15, M1]
      exact (pick_in hf hp2 (by decide) (by decide)).imp fun z hz => toW m1W hz
    | false =>
      have hf : xCons (xIf (xB (xBin gEq (xFn1 0 f__law_draw (xCons (xC (PyData.int 3)) xNil)) (xC (PyData.int 0)))) (xLst (xCons (xC (PyData.str "p")) (xCons (xC (PyData.str "q")) (xCons (xC (PyData.str "p")) (xCons (xC (PyData.str "abcdefgh")) (xCons (xC (PyData.str "a1")) (xCons (xC (PyData.str "z9z")) (xCons (xC (PyData.str "p")) (xCons (xC (PyData.str "q")) (xCons (xC (PyData.str "k")) (xCons (xC (PyData.str "c")) (xCons (xC (PyData.str "A")) (xCons (xC (PyData.str "1a")) (xCons (xC (PyData.str "abcdefghi")) (xCons (xC (PyData.str "a_b")) (xCons (xC (PyData.str "")) xNil)))))))))))))))) (xLst (xCons (xC (PyData.str "p")) (xCons (xC (PyData.str "q2")) xNil)))) xNil [some pot1, some (.str kind), none, none, none] = .ok [.list M2] [some pot2, some (.str kind), none, none, none] := by
        have h2 : (2 : Nat) ≤ sizeLine := by decide
        simp [xCons, xNil, xIf, e2, Out.bind, xLst, xC, lift, h2, M2]
      exact (pick_in hf hp2 (by decide) (by decide)).imp fun z hz => toW m2W hz
  | false =>
    have hn : kind ≠ "name" := fun z => by have := hb z; cases this
    refine DrewR.next (if_nx e1) ?_
    have h10 : (10 : Nat) ≤ sizeLine := by decide
    by_cases hc : kind = "count"
    · subst hc
      refine DrewR.first (DrewR.ift (ρ1 := [some pot1, some (.str "count"), none, none, none]) (by simp [xB, xBin, xVar, xC, lift, Out.bind, eq_str, so_count]) (DrewR.of ?_))
      have hf : xCons (xLst (xCons (xC (PyData.str "0")) (xCons (xC (PyData.str "7")) (xCons (xC (PyData.str "12")) (xCons (xC (PyData.str "99")) (xCons (xC (PyData.str "2")) (xCons (xC (PyData.str "012")) (xCons (xC (PyData.str "100")) (xCons (xC (PyData.str "-1")) (xCons (xC (PyData.str "08")) (xCons (xC (PyData.str "a")) xNil))))))))))) xNil [some pot1, some (.str "count"), none, none, none] = .ok [.list MC] [some pot1, some (.str "count"), none, none, none] := by
        simp [xCons, xNil, Out.bind, xLst, xC, lift, h10, MC]
      refine (pick_in hf hp1 (by decide) (by decide)).imp fun z hz => ?_
      obtain ⟨w, e, hw⟩ := inWs_ok (List.all_eq_true.mp mcW _ hz)
      exact ⟨w, e, hw, fun z => absurd z (by decide +kernel)⟩
    · refine DrewR.next (if_nx (ρ1 := [some pot1, some (.str kind), none, none, none]) (by simp [xB, xBin, xVar, xC, lift, Out.bind, eq_str, so, so_count, hc])) ?_
      by_cases hm : kind = "number"
      · subst hm
        refine DrewR.first (DrewR.ift (ρ1 := [some pot1, some (.str "number"), none, none, none]) (by simp [xB, xBin, xVar, xC, lift, Out.bind, eq_str, so_number]) (DrewR.of ?_))
        have hf : xCons (xLst (xCons (xC (PyData.str "0")) (xCons (xC (PyData.str "-3")) (xCons (xC (PyData.str "123456")) (xCons (xC (PyData.str "-999999")) (xCons (xC (PyData.str "5")) (xCons (xC (PyData.str "-0")) (xCons (xC (PyData.str "1234567")) (xCons (xC (PyData.str "-01")) (xCons (xC (PyData.str "--1")) (xCons (xC (PyData.str "-")) xNil))))))))))) xNil [some pot1, some (.str "number"), none, none, none] = .ok [.list MN] [some pot1, some (.str "number"), none, none, none] := by
          simp [xCons, xNil, Out.bind, xLst, xC, lift, h10, MN]
        refine (pick_in hf hp1 (by decide) (by decide)).imp fun z hz => ?_
        obtain ⟨w, e, hw⟩ := inWs_ok (List.all_eq_true.mp mnW _ hz)
        exact ⟨w, e, hw, fun z => absurd z (by decide +kernel)⟩
      · refine DrewR.next (if_nx (ρ1 := [some pot1, some (.str kind), none, none, none]) (by simp [xB, xBin, xVar, xC, lift, Out.bind, eq_str, so, so_number, hm])) ?_
        have hr : ∃ RR : List D, rightF [some pot1, some (.str kind), none, none, none] = .ok (.list RR) [some pot1, some (.str kind), none, none, none] ∧ RR.all (inWs TW) = true ∧ 0 < RR.length ∧ RR.length < 1000 := by
          have hk' : kind = "name" ∨ kind = "count" ∨ kind = "number" ∨ kind = "plane" ∨ kind = "line" ∨ kind = "curve" ∨ kind = "change" := by simpa [PK] using hk
          rcases hk' with h | h | h | h | h | h | h
          · exact absurd h hn
          · exact absurd h hc
          · exact absurd h hm
          · subst h; exact ⟨_, right_plane _, r_planeW, by decide, by decide⟩
          · subst h; exact ⟨_, right_line _, r_lineW, by decide, by decide⟩
          · subst h; exact ⟨_, right_curve _, r_curveW, by decide, by decide⟩
          · subst h; exact ⟨_, right_change _, r_changeW, by decide, by decide⟩
        obtain ⟨RR, er, hrw, hr0, hr1⟩ := hr
        have s3 : ySet 2 rightF [some pot1, some (.str kind), none, none, none] = .ok .nx [some pot1, some (.str kind), some (.list RR), none, none] := by
          simp [ySet, er, Out.bind]
        refine DrewR.next s3 (DrewR.of ?_)
        obtain ⟨c, pot2, e2, hp2⟩ := draw_test hp1 [some (.str kind), some (.list RR), none, none] 2 0 (by decide) (by decide)
        cases c with
        | true =>
          have hf : xCons (xVar 2) xNil [some pot2, some (.str kind), some (.list RR), none, none] = .ok [.list RR] [some pot2, some (.str kind), some (.list RR), none, none] := by
            simp [xCons, xNil, xVar, lift, Out.bind]
          have hd := (pick_in hf hp2 hr0 hr1).imp fun z hz => toW hrw hz
          unfold xIf
          rw [e2]
          exact hd
        | false =>
          obtain ⟨ρt, et⟩ := tx_ok
          have hx := txW
          rw [Bool.and_eq_true, Bool.and_eq_true, decide_eq_true_eq, decide_eq_true_eq] at hx
          have hf : xCons (xFn f__law_texts xNil) xNil [some pot2, some (.str kind), some (.list RR), none, none] = .ok [.list TX] [some pot2, some (.str kind), some (.list RR), none, none] := by
            simp [xCons, xNil, xFn, Out.bind, et, Out.seal]
          obtain ⟨z, ρz, potz, ez, e0, hpz, hz⟩ := pick_in hf hp2 hx.1.2 hx.2
          have hfi := List.all_eq_true.mp hx.1.1 z hz
          unfold firstIn at hfi
          split at hfi
          case h_2 => cases hfi
          rename_i t l
          have htw : t ∈ TW := of_decide_eq_true hfi
          refine ⟨.str t, ρz, potz, ?_, e0, hpz, t, rfl, of_decide_eq_true (List.all_eq_true.mp tw_wall t htw), fun _ => htw⟩
          unfold xIf
          rw [e2]
          show xBin gIx _ _ _ = _
          simp [xBin, ez, Out.bind, xC, lift, gIx, at0]
end C95
set_option maxHeartbeats 4000000
namespace C95
open PySem PySem.Spec L2 De
def SD : List Str := ["change", "common", "curve", "drawn", "drop", "equation", "forget", "lead", "led", "less", "line", "mult", "over", "parting", "plain", "plane", "row", "slope", "sum", "swap", "times", "turn"]
def SA : List Str := ["at", "bound", "claimed", "clean", "count", "good", "lesser", "names", "parts", "passes", "pieces", "redo", "same", "show", "state", "states", "undo", "value", "whole"]
def SC : List Str := ["along", "aside", "clean", "degrees", "double", "otherwise", "outside", "pieces", "splits", "unlike", "whole", "within"]
theorem sorted_SD (ρ : De.Env) : xCallL sortedD (xCons (xCallL keysD (xCons (xFn f__law_deeds xNil) xNil)) xNil) ρ = .ok (.list (sl SD)) ρ := by kernel_rfl
theorem sorted_SA (ρ : De.Env) : xCallL sortedD (xCons (xCallL keysD (xCons (xFn f__law_asks xNil) xNil)) xNil) ρ = .ok (.list (sl SA)) ρ := by kernel_rfl
theorem sorted_SC (ρ : De.Env) : xCallL sortedD (xCons (xCallL keysD (xCons (xFn f__law_claims xNil) xNil)) xNil) ρ = .ok (.list (sl SC)) ρ := by kernel_rfl
def kOK (tab : List (D × D)) (w : Str) : Bool := match valD tab (.inr w) with
  | some (.list ks) => (ks.all (inWs PK) && decide (ks.length ≤ 5)) && (!decide (w ∈ TH) || ks.all (inWs NK))
  | _ => false
theorem kSD : (SD.all fun w => kOK DD w && decide (w ∈ WALL)) = true := by decide +kernel
theorem kSA : (SA.all fun w => kOK AA w && decide (w ∈ WALL)) = true := by decide +kernel
theorem kSC : (SC.all fun w => kOK CC w && decide (w ∈ WALL)) = true := by decide +kernel
theorem claim_w : ("claim" : Str) ∈ WALL := by decide +kernel
theorem claim_t : ¬ ("claim" : Str) ∈ TH := by decide +kernel
theorem p_tw : ("p" : Str) ∈ TW := by decide +kernel
theorem nk_pk : (NK.all fun k => decide (k ∈ PK)) = true := by decide +kernel
theorem name_pk : ("name" : Str) ∈ PK := by decide +kernel
theorem tw_in {w : Str} (h : w ∈ TW) : w ∈ WALL := of_decide_eq_true (List.all_eq_true.mp tw_wall w h)
theorem strs_of_all {Wl : List Str} : ∀ {ks : List D}, ks.all (inWs Wl) = true → ∃ l, ks = sl l ∧ ∀ w ∈ l, w ∈ Wl
  | [], _ => ⟨[], rfl, fun _ z => nomatch z⟩
  | k :: ks, h => by
    rw [List.all_cons, Bool.and_eq_true] at h
    obtain ⟨w, rfl, hw⟩ := inWs_ok h.1
    obtain ⟨l, rfl, hl⟩ := strs_of_all h.2
    exact ⟨w :: l, rfl, fun z hz => by
      rcases List.mem_cons.mp hz with e | hz
      · rw [e]; exact hw
      · exact hl z hz⟩
theorem sl_inj {l l' : List Str} (h : sl l = sl l') : l = l' := by
  induction l generalizing l' with
  | nil => cases l' with
    | nil => rfl
    | cons _ _ => cases h
  | cons a l ih => cases l' with
    | nil => cases h
    | cons b l' =>
      injection h with h1 h2
      injection h1 with h1
      rw [h1, ih h2]
theorem kOK_of {tab : List (D × D)} {w : Str} (h : kOK tab w = true) : ∃ l, valD tab (.inr w) = some (.list (sl l)) ∧ (∀ k ∈ l, k ∈ PK) ∧ l.length ≤ 5 ∧ (w ∈ TH → ∀ k ∈ l, k ∈ NK) := by
  unfold kOK at h
  split at h
  case h_2 => cases h
  rename_i ks e
  simp only [Bool.and_eq_true, decide_eq_true_eq, Bool.or_eq_true, Bool.not_eq_true', decide_eq_false_iff_not] at h
  obtain ⟨⟨h1, h2⟩, h3⟩ := h
  obtain ⟨l, rfl, hl⟩ := strs_of_all h1
  refine ⟨l, e, hl, by simpa using h2, fun ht k hk => ?_⟩
  obtain ⟨l', e', hl'⟩ := strs_of_all (h3.resolve_left fun z => z ht)
  rw [sl_inj e'] at hk
  exact hl' k hk
/-- words as they may stand -/
structure Sane (w0 : Str) (r : List Str) : Prop where
  h0 : w0 ∈ WALL
  hr : ∀ w ∈ r, w ∈ WALL
  ht : w0 ∈ TH → ∀ w ∈ r, w ∈ TW
theorem Sane.snoc {w0 w : Str} {r : List Str} (s : Sane w0 r) (hw : w ∈ WALL) (ht : w0 ∈ TH → w ∈ TW) : Sane w0 (r ++ [w]) := by
  refine ⟨s.h0, fun z hz => ?_, fun h z hz => ?_⟩
  · rcases List.mem_append.mp hz with hz | hz
    · exact s.hr z hz
    · rw [List.mem_singleton.mp hz]; exact hw
  · rcases List.mem_append.mp hz with hz | hz
    · exact s.ht h z hz
    · rw [List.mem_singleton.mp hz]; exact ht h
theorem loop_str (a1 a2 a3 x6 : Option D) (w0 : Str) : ∀ (ks : List Str) (r : List Str) (pot : D) (x5 : Option D), Pot pot → Sane w0 r → (∀ k ∈ ks, k ∈ PK) → (w0 ∈ TH → ∀ k ∈ ks, k ∈ NK) → r.length + ks.length ≤ 100 → ∃ r' pot' y5,
    forD (zName 5) (yApp 4 (xFn1 0 f__law_part (xCons (xVar 5) xNil))) (sl ks) [some pot, a1, a2, a3, some (.list (sl (w0 :: r))), x5, x6] = .ok .nx [some pot', a1, a2, a3, some (.list (sl (w0 :: r'))), y5, x6] ∧ Pot pot' ∧ Sane w0 r' ∧ r'.length = r.length + ks.length
  | [], r, pot, x5, hp, hs, _, _, _ => ⟨r, pot, x5, by simp [forD], hp, hs, by simp⟩
  | k :: ks, r, pot, x5, hp, hs, hk, ht, hl => by
    have hl' : r.length + (ks.length + 1) ≤ 100 := hl
    obtain ⟨z, pot1, e, hp1, w, rfl, hw, hwt⟩ := fn1_ok (ρ := [some pot, a1, a2, a3, some (.list (sl (w0 :: r))), some (.str k), x6]) (ρ1 := [some pot, a1, a2, a3, some (.list (sl (w0 :: r))), some (.str k), x6]) (fs := xCons (xVar 5) xNil) rfl (by simp [xCons, xNil, xVar, lift, Out.bind]) rfl (part_ok hp (hk k List.mem_cons_self))
    obtain ⟨r', pot', y5, ih, hp', hs', hlen⟩ := loop_str a1 a2 a3 x6 w0 ks (r ++ [w]) pot1 (some (.str k)) hp1 (hs.snoc hw fun h => hwt (ht h k List.mem_cons_self)) (fun z hz => hk z (List.mem_cons_of_mem _ hz)) (fun h z hz => ht h z (List.mem_cons_of_mem _ hz)) (by rw [List.length_append]; simp; omega)
    refine ⟨r', pot', y5, ?_, hp', hs', by rw [hlen, List.length_append]; simp; omega⟩
    have hz : (sl (w0 :: r)).length < sizeLine := by rw [List.length_map, sizeLine_eq]; simp; omega
    have key : (yApp 4 (xFn1 0 f__law_part (xCons (xVar 5) xNil))) [some pot, a1, a2, a3, some (.list (sl (w0 :: r))), some (.str k), x6] = .ok .nx [some pot1, a1, a2, a3, some (.list (sl (w0 :: (r ++ [w])))), some (.str k), x6] := by
      have e2 : sl (w0 :: (r ++ [w])) = sl (w0 :: r) ++ [.str w] := by simp
      rw [e2]
      generalize sl (w0 :: r) = ds at e hz ⊢
      simp [yApp, e, Out.bind, hz]
    show (((zName 5) (.str k) [some pot, a1, a2, a3, some (.list (sl (w0 :: r))), x5, x6]).bind fun _ ρ1 => _) = _
    simp only [zName, Out.bind, List.set_cons_succ, List.set_cons_zero, key]
    exact ih
def wayF : De.Env → Out SO := (yIf (xB (xBin gLt (xVar 1) (xC (PyData.int 3)))) (ySeq (ySet 2 (xFn1 0 f__law_pick (xCons (xCallL sortedD (xCons (xCallL keysD (xCons (xFn f__law_deeds xNil) xNil)) xNil)) xNil))) (yPar 3 4 (xBin gDIx (xFn f__law_deeds xNil) (xVar 2)) (xLst (xCons (xVar 2) xNil)))) (yIf (xB (xBin gEq (xVar 1) (xC (PyData.int 3)))) (ySeq (ySet 2 (xFn1 0 f__law_pick (xCons (xCallL sortedD (xCons (xCallL keysD (xCons (xFn f__law_asks xNil) xNil)) xNil)) xNil))) (yPar 3 4 (xBin gDIx (xFn f__law_asks xNil) (xVar 2)) (xLst (xCons (xVar 2) xNil)))) (ySeq (ySet 2 (xFn1 0 f__law_pick (xCons (xCallL sortedD (xCons (xCallL keysD (xCons (xFn f__law_claims xNil) xNil)) xNil)) xNil))) (yPar 3 4 (xBin gDIx (xFn f__law_claims xNil) (xVar 2)) (xLst (xCons (xC (PyData.str "claim")) (xCons (xFn1 0 f__law_part (xCons (xC (PyData.str "name")) xNil)) (xCons (xVar 2) xNil))))))))
theorem go_t {t : De.Env → Out Bool} {u w : De.Env → Out SO} {ρ ρ1 : De.Env} (h : t ρ = .ok true ρ1) : yIf t u w ρ = u ρ1 := by simp [yIf, xIf, h, Out.bind]
theorem go_f {t : De.Env → Out Bool} {u w : De.Env → Out SO} {ρ ρ1 : De.Env} (h : t ρ = .ok false ρ1) : yIf t u w ρ = w ρ1 := by simp [yIf, xIf, h, Out.bind]
theorem go_seq {u w : De.Env → Out SO} {ρ ρ1 : De.Env} (h : u ρ = .ok .nx ρ1) : ySeq u w ρ = w ρ1 := by simp [ySeq, h, Out.bind]
theorem way_ok {pot : D} (hp : Pot pot) (k : Int) : ∃ (pot' : D) (w : Str × List Str) (x2 : Option D) (l : List Str), wayF [some pot, some (.int k), none, none, none, none, none] = .ok .nx [some pot', some (.int k), x2, some (.list (sl l)), some (.list (sl (w.1 :: w.2))), none, none] ∧ Pot pot' ∧ Sane w.1 w.2 ∧ w.2.length ≤ 2 ∧ (∀ k ∈ l, k ∈ PK) ∧ l.length ≤ 5 ∧ (w.1 ∈ TH → ∀ k ∈ l, k ∈ NK) := by
  have h1 : (1 : Nat) ≤ sizeLine := by decide
  have h3 : (3 : Nat) ≤ sizeLine := by decide
  have tlt : xB (xBin gLt (xVar 1) (xC (PyData.int 3))) [some pot, some (.int k), none, none, none, none, none] = .ok (decide (k < 3)) [some pot, some (.int k), none, none, none, none, none] := by
    simp [xB, xBin, xVar, xC, lift, Out.bind, gLt, gII]
  have teq : xB (xBin gEq (xVar 1) (xC (PyData.int 3))) [some pot, some (.int k), none, none, none, none, none] = .ok (decide (k = 3)) [some pot, some (.int k), none, none, none, none, none] := by
    simp [xB, xBin, xVar, xC, lift, Out.bind, eq_int]
  -- a word of a sorted table
  have word : ∀ (S : List Str) (fs : De.Env → Out D), (∀ ρ, fs ρ = .ok (.list (sl S)) ρ) → 0 < S.length → S.length < 1000 → ∃ w pot', w ∈ S ∧ Pot pot' ∧ ySet 2 (xFn1 0 f__law_pick (xCons fs xNil)) [some pot, some (.int k), none, none, none, none, none] = .ok .nx [some pot', some (.int k), some (.str w), none, none, none, none] := fun S fs hf g0 g1 => by
    obtain ⟨z, pot', e, hp', hz⟩ := fn1_ok (ρ := [some pot, some (.int k), none, none, none, none, none]) (ρ1 := [some pot, some (.int k), none, none, none, none, none]) (fs := xCons fs xNil) rfl (by simp [xCons, xNil, hf, Out.bind]) rfl (pick_ok (xs := sl S) hp (by rw [List.length_map]; exact g0) (by rw [List.length_map]; exact g1))
    obtain ⟨w, hw, rfl⟩ := List.mem_map.mp hz
    exact ⟨w, pot', hw, hp', by simp [ySet, e, Out.bind]⟩
  obtain ⟨ρc, hcc⟩ := cc_ok
  obtain ⟨ρd, hdd⟩ := dd_ok
  obtain ⟨ρa, haa⟩ := aa_ok
  by_cases g1 : k < 3
  · obtain ⟨w, pot', hw, hp', e⟩ := word SD _ sorted_SD (by decide) (by decide)
    have hk := List.all_eq_true.mp kSD w hw
    rw [Bool.and_eq_true, decide_eq_true_eq] at hk
    obtain ⟨l, el, l1, l2, l3⟩ := kOK_of hk.1
    refine ⟨pot', (w, []), some (.str w), l, ?_, hp', ⟨hk.2, (fun _ z => nomatch z), (fun _ _ z => nomatch z)⟩, by simp, l1, l2, l3⟩
    unfold wayF
    refine (go_t (by rw [tlt, decide_eq_true g1])).trans ((go_seq e).trans ?_)
    simp [Out.bind, yPar, xBin, xFn, xNil, Out.seal, hdd, xVar, lift, gDIx, keyD, el, xLst, xCons, h1]
  · by_cases g2 : k = 3
    · obtain ⟨w, pot', hw, hp', e⟩ := word SA _ sorted_SA (by decide) (by decide)
      have hk := List.all_eq_true.mp kSA w hw
      rw [Bool.and_eq_true, decide_eq_true_eq] at hk
      obtain ⟨l, el, l1, l2, l3⟩ := kOK_of hk.1
      refine ⟨pot', (w, []), some (.str w), l, ?_, hp', ⟨hk.2, (fun _ z => nomatch z), (fun _ _ z => nomatch z)⟩, by simp, l1, l2, l3⟩
      unfold wayF
      refine (go_f (by rw [tlt, decide_eq_false g1])).trans ((go_t (by rw [teq, decide_eq_true g2])).trans ((go_seq e).trans ?_))
      simp [Out.bind, yPar, xBin, xFn, xNil, Out.seal, haa, xVar, lift, gDIx, keyD, el, xLst, xCons, h1]
    · obtain ⟨w, pot', hw, hp', e⟩ := word SC _ sorted_SC (by decide) (by decide)
      have hk := List.all_eq_true.mp kSC w hw
      rw [Bool.and_eq_true, decide_eq_true_eq] at hk
      obtain ⟨l, el, l1, l2, l3⟩ := kOK_of hk.1
      obtain ⟨z, pot2, e2, hp2, v, rfl, hv, _⟩ := fn1_ok (ρ := [some pot', some (.int k), some (.str w), none, none, none, none]) (ρ1 := [some pot', some (.int k), some (.str w), none, none, none, none]) (fs := xCons (xC (PyData.str "name")) xNil) rfl (by simp [xCons, xNil, xC, Out.bind]) rfl (part_ok hp' name_pk)
      refine ⟨pot2, ("claim", [v, w]), some (.str w), l, ?_, hp2, ⟨claim_w, fun z hz => ?_, fun h => absurd h claim_t⟩, by simp, l1, l2, fun h => absurd h claim_t⟩
      · unfold wayF
        refine (go_f (by rw [tlt, decide_eq_false g1])).trans ((go_f (by rw [teq, decide_eq_false g2])).trans ((go_seq e).trans ?_))
        simp [Out.bind, yPar, xBin, xFn, xNil, Out.seal, hcc, xVar, xC, lift, gDIx, keyD, el, xLst, xCons, h3, e2]
      · rcases List.mem_cons.mp hz with h | h
        · rw [h]; exact hv
        · rw [List.mem_singleton.mp h]; exact hk.2
end C95
set_option maxHeartbeats 4000000
namespace C95
open PySem PySem.Spec L2 De
def bendF : De.Env → Out SO := (yIf (xAndT (xB (xBin gEq (xVar 6) (xC (PyData.int 0)))) (xB (xBin gGt (xCallS 4 (fun ds => some (.int ds.length))) (xC (PyData.int 1))))) (yDrop (xPop 4)) (yIf (xB (xBin gEq (xVar 6) (xC (PyData.int 1)))) (yApp 4 (xC (PyData.str "p"))) (yIf (xB (xBin gEq (xVar 6) (xC (PyData.int 2)))) (yAsg (xFn1 0 f__law_pick (xCons (xLst (xCons (xC (PyData.str "")) (xCons (xC (PyData.str "Plane")) (xCons (xC (PyData.str "planes")) (xCons (xC (PyData.str "claim")) (xCons (xC (PyData.str "names")) (xCons (xC (PyData.str "undo")) (xCons (xC (PyData.str "sum")) xNil)))))))) xNil)) (zIx 4 (xC (PyData.int 0)))) yNil)))
def HL : List Str := ["", "Plane", "planes", "claim", "names", "undo", "sum"]
theorem hlOk : (HL.all fun w => decide (w ∈ WALL) && !decide (w ∈ TH)) = true := by decide +kernel
theorem ix0 {n : Nat} : ixN (n + 1) 0 = some 0 := by
  unfold ixN
  simp
theorem bend_ok {pot : D} (a1 a2 a3 x5 : Option D) (bd : Int) {w0 : Str} {r : List Str} (hp : Pot pot) (hs : Sane w0 r) (hl : r.length ≤ 9) : ∃ (pot' : D) (w0' : Str) (r' : List Str),
    bendF [some pot, a1, a2, a3, some (.list (sl (w0 :: r))), x5, some (.int bd)] = .ok .nx [some pot', a1, a2, a3, some (.list (sl (w0' :: r'))), x5, some (.int bd)] ∧ Pot pot' ∧ Sane w0' r' ∧ r'.length ≤ 10 := by
  have q0 : ∀ c : Int, xB (xBin gEq (xVar 6) (xC (PyData.int c))) [some pot, a1, a2, a3, some (.list (sl (w0 :: r))), x5, some (.int bd)] = .ok (decide (bd = c)) [some pot, a1, a2, a3, some (.list (sl (w0 :: r))), x5, some (.int bd)] := fun c => by
    simp [xB, xBin, xVar, xC, lift, Out.bind, eq_int]
  have q1 : xAndT (xB (xBin gEq (xVar 6) (xC (PyData.int 0)))) (xB (xBin gGt (xCallS 4 (fun ds => some (.int ds.length))) (xC (PyData.int 1)))) [some pot, a1, a2, a3, some (.list (sl (w0 :: r))), x5, some (.int bd)] = .ok (decide (bd = 0) && decide (0 < r.length)) [some pot, a1, a2, a3, some (.list (sl (w0 :: r))), x5, some (.int bd)] := by
    unfold xAndT
    rw [q0 0]
    cases hb : decide (bd = 0) with
    | false => simp [Out.bind]
    | true =>
      have e : (decide ((1 : Int) < (r.length : Int) + 1)) = decide (0 < r.length) := by
        by_cases h : 0 < r.length
        · rw [decide_eq_true h, decide_eq_true (by omega)]
        · rw [decide_eq_false h, decide_eq_false (by omega)]
      simp [Out.bind, xB, xBin, xCallS, xC, lift, gGt, gII, e]
  have hz : (sl (w0 :: r)).length < sizeLine := by rw [List.length_map, sizeLine_eq]; simp; omega
  by_cases g0 : bd = 0 ∧ 0 < r.length
  · obtain ⟨g0, g00⟩ := g0
    refine ⟨pot, w0, r.dropLast, ?_, hp, ⟨hs.h0, fun w hw => hs.hr w (List.dropLast_subset _ hw), fun h w hw => hs.ht h w (List.dropLast_subset _ hw)⟩, by rw [List.length_dropLast]; omega⟩
    unfold bendF
    refine (go_t (by rw [q1, decide_eq_true g0, decide_eq_true g00]; rfl)).trans ?_
    have hdl : (sl (w0 :: r)).dropLast = sl (w0 :: r.dropLast) := by
      cases r with
      | nil => simp at g00
      | cons a r => simp [List.map_dropLast]
    have hg : ∃ d, (sl (w0 :: r))[(sl (w0 :: r)).length - 1]? = some d := ⟨_, List.getElem?_eq_getElem (by simp)⟩
    obtain ⟨d, hg⟩ := hg
    rw [← hdl]
    generalize sl (w0 :: r) = ds at hg ⊢
    simp [yDrop, xPop, hg, Out.bind]
  · have n0 : (decide (bd = 0) && decide (0 < r.length)) = false := by
      rw [Bool.and_eq_false_iff, decide_eq_false_iff_not, decide_eq_false_iff_not]
      by_cases h : bd = 0
      · exact .inr fun z => g0 ⟨h, z⟩
      · exact .inl h
    by_cases g1 : bd = 1
    · refine ⟨pot, w0, r ++ [("p" : Str)], ?_, hp, hs.snoc (tw_in p_tw) fun _ => p_tw, by simp; omega⟩
      unfold bendF
      refine (go_f (by rw [q1, n0])).trans ((go_t (by rw [q0, decide_eq_true g1])).trans ?_)
      have e2 : sl (w0 :: (r ++ [("p" : Str)])) = sl (w0 :: r) ++ [.str "p"] := by simp
      rw [e2]
      generalize sl (w0 :: r) = ds at hz ⊢
      simp [yApp, xC, Out.bind, hz]
    · by_cases g2 : bd = 2
      · have h7 : (7 : Nat) ≤ sizeLine := by decide
        obtain ⟨z, pot', e, hp', hm⟩ := fn1_ok (ρ := [some pot, a1, a2, a3, some (.list (sl (w0 :: r))), x5, some (.int bd)]) (ρ1 := [some pot, a1, a2, a3, some (.list (sl (w0 :: r))), x5, some (.int bd)]) (fs := xCons (xLst (xCons (xC (PyData.str "")) (xCons (xC (PyData.str "Plane")) (xCons (xC (PyData.str "planes")) (xCons (xC (PyData.str "claim")) (xCons (xC (PyData.str "names")) (xCons (xC (PyData.str "undo")) (xCons (xC (PyData.str "sum")) xNil)))))))) xNil) rfl (by simp [xCons, xNil, xLst, xC, lift, h7, Out.bind]; rfl) rfl (pick_ok (xs := sl HL) hp (by decide) (by decide))
        obtain ⟨w, hw, rfl⟩ := List.mem_map.mp hm
        have ho := List.all_eq_true.mp hlOk w hw
        rw [Bool.and_eq_true, decide_eq_true_eq, Bool.not_eq_true', decide_eq_false_iff_not] at ho
        refine ⟨pot', w, r, ?_, hp', ⟨ho.1, hs.hr, fun h => absurd h ho.2⟩, by omega⟩
        unfold bendF
        refine (go_f (by rw [q1, n0])).trans ((go_f (by rw [q0, decide_eq_false g1])).trans ((go_t (by rw [q0, decide_eq_true g2])).trans ?_))
        unfold yAsg
        rw [e]
        simp [Out.bind, zIx, xC, ix0]
      · refine ⟨pot, w0, r, ?_, hp, hs, by omega⟩
        unfold bendF
        exact (go_f (by rw [q1, n0])).trans ((go_f (by rw [q0, decide_eq_false g1])).trans ((go_f (by rw [q0, decide_eq_false g2])).trans rfl))
theorem strsOf_sl (l : List Str) : strsOf (sl l) = some l := by
  induction l with
  | nil => rfl
  | cons a l ih => simp [strsOf, ih]
theorem lenW {w : Str} (h : w ∈ WALL) : w.length ≤ 100 := by
  have := List.all_eq_true.mp wOk w h
  simp only [Bool.and_eq_true, decide_eq_true_eq] at this
  exact this.2
theorem sum_le : ∀ (l : List Str), (∀ w ∈ l, w ∈ WALL) → (l.map (·.length)).sum ≤ l.length * 100
  | [], _ => by simp
  | w :: l, h => by
    have i1 := sum_le l fun z hz => h z (List.mem_cons_of_mem _ hz)
    have i2 := lenW (h w List.mem_cons_self)
    simp only [List.map_cons, List.sum_cons, List.length_cons]
    omega
theorem string_ok {pot : D} (hp : Pot pot) : Drew (f__law_string [pot]) fun z => ∃ (sep w0 : Str) (r : List Str), z = .str (Txt.join sep (w0 :: r)) ∧ (sep = " " ∨ sep = "  ") ∧ Sane w0 r ∧ r.length ≤ 10 := by
  obtain ⟨z1, pot1, e1, hp1, k, rfl, _⟩ := fn1_ok (ρ := [some pot, none, none, none, none, none, none]) (ρ1 := [some pot, none, none, none, none, none, none]) (fs := xCons (xC (PyData.int 6)) xNil) (ds := [.int 6]) rfl (by simp [xCons, xNil, xC, Out.bind]) rfl (draw_ok (m := 6) hp (by decide) (by decide))
  have s1 : ySet 1 (xFn1 0 f__law_draw (xCons (xC (PyData.int 6)) xNil)) [some pot, none, none, none, none, none, none] = .ok .nx [some pot1, some (.int k), none, none, none, none, none] := by
    simp [ySet, e1, Out.bind]
  obtain ⟨pot2, w, x2, l, s2, hp2, hs2, hl2, hk, hl5, ht⟩ := way_ok hp1 k
  obtain ⟨r3, pot3, y5, e3, hp3, hs3, hl3⟩ := loop_str (some (.int k)) x2 (some (.list (sl l))) none w.1 l w.2 pot2 none hp2 hs2 hk ht (by omega)
  have s3 : yFor (xItems (xVar 3)) (zName 5) (yApp 4 (xFn1 0 f__law_part (xCons (xVar 5) xNil))) [some pot2, some (.int k), x2, some (.list (sl l)), some (.list (sl (w.1 :: w.2))), none, none] = .ok .nx [some pot3, some (.int k), x2, some (.list (sl l)), some (.list (sl (w.1 :: r3))), y5, none] := by
    unfold yFor
    have hi : xItems (xVar 3) [some pot2, some (.int k), x2, some (.list (sl l)), some (.list (sl (w.1 :: w.2))), none, none] = .ok (sl l) [some pot2, some (.int k), x2, some (.list (sl l)), some (.list (sl (w.1 :: w.2))), none, none] := by
      simp [xItems, xVar, lift, Out.bind, itemsD]
    rw [hi]
    exact e3
  obtain ⟨z4, pot4, e4, hp4, bd, rfl, _⟩ := fn1_ok (ρ := [some pot3, some (.int k), x2, some (.list (sl l)), some (.list (sl (w.1 :: r3))), y5, none]) (ρ1 := [some pot3, some (.int k), x2, some (.list (sl l)), some (.list (sl (w.1 :: r3))), y5, none]) (fs := xCons (xC (PyData.int 9)) xNil) (ds := [.int 9]) rfl (by simp [xCons, xNil, xC, Out.bind]) rfl (draw_ok (m := 9) hp3 (by decide) (by decide))
  have s4 : ySet 6 (xFn1 0 f__law_draw (xCons (xC (PyData.int 9)) xNil)) [some pot3, some (.int k), x2, some (.list (sl l)), some (.list (sl (w.1 :: r3))), y5, none] = .ok .nx [some pot4, some (.int k), x2, some (.list (sl l)), some (.list (sl (w.1 :: r3))), y5, some (.int bd)] := by
    unfold ySet
    rw [e4]
    rfl
  obtain ⟨pot5, w0, r, s5, hp5, hs5, hl6⟩ := bend_ok (some (.int k)) x2 (some (.list (sl l))) y5 bd hp4 hs3 (by omega)
  refine DrewR.run rfl (DrewR.next s1 (DrewR.next s2 (DrewR.next s3 (DrewR.next s4 (DrewR.next s5 (DrewR.of ?_))))))
  have hall : ∀ z ∈ w0 :: r, z ∈ WALL := fun z hz => by
    rcases List.mem_cons.mp hz with e | hz
    · rw [e]; exact hs5.h0
    · exact hs5.hr z hz
  have hsum := sum_le (w0 :: r) hall
  have fin : ∀ sep : Str, (sep = " " ∨ sep = "  ") → joinD sep [.list (sl (w0 :: r))] = some (.str (Txt.join sep (w0 :: r))) := fun sep hsep => by
    have hsl : sep.length ≤ 2 := by
      rcases hsep with e | e
      · subst e; decide
      · subst e; decide
    have hb : ((w0 :: r).map (·.length)).sum + (w0 :: r).length * sep.length ≤ 16777216 := by
      have hlen : (w0 :: r).length ≤ 11 := by simp; omega
      have : (w0 :: r).length * sep.length ≤ 11 * 2 := Nat.mul_le_mul hlen hsl
      omega
    show (strsOf (sl (w0 :: r))).bind _ = _
    rw [strsOf_sl]
    show (if _ then _ else _) = _
    rw [if_pos hb]
  have q3 : xB (xBin gEq (xVar 6) (xC (PyData.int 3))) [some pot5, some (.int k), x2, some (.list (sl l)), some (.list (sl (w0 :: r))), y5, some (.int bd)] = .ok (decide (bd = 3)) [some pot5, some (.int k), x2, some (.list (sl l)), some (.list (sl (w0 :: r))), y5, some (.int bd)] := by
    simp [xB, xBin, xVar, xC, lift, Out.bind, eq_int]
  by_cases g : bd = 3
  · refine ⟨.str (Txt.join "  " (w0 :: r)), [some pot5, some (.int k), x2, some (.list (sl l)), some (.list (sl (w0 :: r))), y5, some (.int bd)], pot5, ?_, rfl, hp5, "  ", w0, r, rfl, .inr rfl, hs5, hl6⟩
    have hj := fin "  " (.inr rfl)
    rw [decide_eq_true g] at q3
    generalize sl (w0 :: r) = ds at q3 hj ⊢
    simp [xMt, xIf, q3, Out.bind, xC, xCons, xNil, xVar, lift, hj]
  · refine ⟨.str (Txt.join " " (w0 :: r)), [some pot5, some (.int k), x2, some (.list (sl l)), some (.list (sl (w0 :: r))), y5, some (.int bd)], pot5, ?_, rfl, hp5, " ", w0, r, rfl, .inl rfl, hs5, hl6⟩
    have hj := fin " " (.inl rfl)
    rw [decide_eq_false g] at q3
    generalize sl (w0 :: r) = ds at q3 hj ⊢
    simp [xMt, xIf, q3, Out.bind, xC, xCons, xNil, xVar, lift, hj]
end C95
set_option maxHeartbeats 4000000
namespace C95
open PySem PySem.Spec L2 De
/-! ### split behind join -/
def inter {α : Type} (e : α) : List α → List α
  | [] => []
  | [p] => [p]
  | p :: q :: r => p :: e :: inter e (q :: r)
theorem inter_map {α β : Type} (f : α → β) (e : α) : ∀ l : List α, (inter e l).map f = inter (f e) (l.map f)
  | [] => rfl
  | [_] => rfl
  | p :: q :: r => by
    show f p :: f e :: (inter e (q :: r)).map f = _
    rw [inter_map f e (q :: r)]
    rfl
theorem inter_mem {α : Type} {e x : α} : ∀ {l : List α}, x ∈ inter e l → x = e ∨ x ∈ l
  | [], h => by cases h
  | [p], h => .inr h
  | p :: q :: r, h => by
    rcases List.mem_cons.mp h with rfl | h
    · exact .inr List.mem_cons_self
    · rcases List.mem_cons.mp h with rfl | h
      · exact .inl rfl
      · rcases inter_mem h with h | h
        · exact .inl h
        · exact .inr (List.mem_cons_of_mem _ h)
theorem inter_cons {α : Type} {e p : α} {r : List α} : ∃ t, inter e (p :: r) = p :: t := by
  cases r with
  | nil => exact ⟨[], rfl⟩
  | cons q r => exact ⟨_, rfl⟩
theorem inter_len {α : Type} {e : α} : ∀ (l : List α), (inter e l).length ≤ 2 * l.length
  | [] => by simp [inter]
  | [_] => by simp [inter]
  | p :: q :: r => by
    have := inter_len (e := e) (q :: r)
    simp only [inter, List.length_cons] at *
    omega
theorem joinL_inter : ∀ l : List (List Nat), TL.joinL [32, 32] l = TL.joinL [32] (inter [] l)
  | [] => rfl
  | [_] => rfl
  | p :: q :: r => by
    have ih := joinL_inter (q :: r)
    obtain ⟨t, et⟩ := inter_cons (e := ([] : List Nat)) (p := q) (r := r)
    show p ++ ([32, 32] ++ TL.joinL [32, 32] (q :: r)) = TL.joinL [32] (p :: [] :: inter [] (q :: r))
    rw [ih, et]
    rfl
theorem joinL_len (S : List Nat) : ∀ l : List (List Nat), (TL.joinL S l).length ≤ (l.map List.length).sum + l.length * S.length
  | [] => by simp [TL.joinL]
  | [p] => by simp [TL.joinL]
  | p :: q :: r => by
    have ih := joinL_len S (q :: r)
    show (p ++ (S ++ TL.joinL S (q :: r))).length ≤ _
    simp only [List.length_append, List.map_cons, List.sum_cons, List.length_cons, Nat.succ_mul] at *
    omega
theorem free32 {w : Str} (h : w ∈ WALL) : (32 : Nat) ∉ TL.tl w := by
  have := List.all_eq_true.mp wOk w h
  simp only [Bool.and_eq_true, Bool.not_eq_true'] at this
  intro z
  have h2 := this.1.2
  rw [List.contains_iff_mem.mpr z] at h2
  cases h2
theorem empty_w : ("" : Str) ∈ WALL := by decide +kernel
theorem empty_tw : ("" : Str) ∈ TW := by decide +kernel
theorem join_two (l : List Str) : Txt.join "  " l = Txt.join " " (inter ("" : Str) l) := by
  rw [TL.join_eq, TL.join_eq]
  refine TL.ext_tl ?_
  rw [TL.tl_join, TL.tl_join, inter_map]
  exact joinL_inter _
theorem split_one {l : List Str} (hn : l ≠ []) (h : ∀ w ∈ l, w ∈ WALL) : Txt.split (Txt.join " " l) " " = l :=
  TL.split_join (y := " ") (s := 32) (S := []) rfl (by decide +kernel) hn fun p hp => free32 (h p hp)
theorem len_one {l : List Str} (h : ∀ w ∈ l, w ∈ WALL) (hl : l.length ≤ 100) : (Txt.join " " l).length + 2 ≤ sizeLine := by
  have e : (Txt.join " " l).length = (TL.joinL [32] (l.map TL.tl)).length := by
    have e1 : TL.tl (Txt.join " " l) = TL.joinL [32] (l.map TL.tl) := by
      rw [TL.join_eq, TL.tl_join]
      rfl
    rw [← e1]
    rfl
  have h1 := joinL_len [32] (l.map TL.tl)
  have h2 : ((l.map TL.tl).map List.length).sum = (l.map (·.length)).sum := by
    rw [List.map_map]
    rfl
  have h3 := sum_le l h
  rw [h2, List.length_map] at h1
  simp only [List.length_cons, List.length_nil] at h1
  rw [e, sizeLine_eq]
  omega
theorem words_of {sep w0 : Str} {r : List Str} (hsep : sep = " " ∨ sep = "  ") (hs : Sane w0 r) (hl : r.length ≤ 10) : ∃ r', Txt.split (Txt.join sep (w0 :: r)) " " = w0 :: r' ∧ (Txt.join sep (w0 :: r)).length + 2 ≤ sizeLine ∧ r'.length < 1000 ∧ Sane w0 r' := by
  have hall : ∀ z ∈ w0 :: r, z ∈ WALL := fun z hz => by
    rcases List.mem_cons.mp hz with e | hz
    · rw [e]; exact hs.h0
    · exact hs.hr z hz
  rcases hsep with rfl | rfl
  · exact ⟨r, split_one (by simp) hall, len_one hall (by simp; omega), by omega, hs⟩
  · rw [join_two]
    have hall2 : ∀ z ∈ inter ("" : Str) (w0 :: r), z ∈ WALL := fun z hz => by
      rcases inter_mem hz with e | h
      · rw [e]; exact empty_w
      · exact hall z h
    have hlen := inter_len (e := ("" : Str)) (w0 :: r)
    rw [List.length_cons] at hlen
    obtain ⟨t, et⟩ := inter_cons (e := ("" : Str)) (p := w0) (r := r)
    have hne : inter ("" : Str) (w0 :: r) ≠ [] := by rw [et]; simp
    have hsp := split_one hne hall2
    have hln := len_one hall2 (by omega)
    rw [et] at hsp hln hall2 hlen ⊢
    rw [List.length_cons] at hlen
    refine ⟨t, hsp, hln, by omega, hs.h0, fun w hw => hall2 w (List.mem_cons_of_mem _ hw), fun h w hw => ?_⟩
    have hm : w ∈ inter ("" : Str) (w0 :: r) := by rw [et]; exact List.mem_cons_of_mem _ hw
    cases r with
    | nil =>
      have : t = [] := by
        have : inter ("" : Str) [w0] = [w0] := rfl
        rw [this] at et
        injection et with _ e
        exact e.symm
      rw [this] at hw; cases hw
    | cons a r =>
      have : t = ("" : Str) :: inter ("" : Str) (a :: r) := by
        have e1 : inter ("" : Str) (w0 :: a :: r) = w0 :: ("" : Str) :: inter ("" : Str) (a :: r) := rfl
        rw [e1] at et
        injection et with _ e
        exact e.symm
      rw [this] at hw
      rcases List.mem_cons.mp hw with e | hw
      · rw [e]; exact empty_tw
      · rcases inter_mem hw with e | hw
        · rw [e]; exact empty_tw
        · exact hs.ht h w hw
end C95
set_option maxHeartbeats 4000000
namespace C95
open PySem PySem.Spec L2 De
theorem pot_of (c : Int) (hc : 0 ≤ c) : Pot (.list [.int (if c - 10 ^ 18 > 0 then c - 10 ^ 18 else 0), .int ((c % 2147483549 * 44017 + 877 * 0 + 23003) % 2147483579 + 1)]) := by
  refine ⟨_, _, rfl, ?_, ?_, ?_⟩
  · split
    · omega
    · omega
  · have := Int.emod_nonneg (c % 2147483549 * 44017 + 877 * 0 + 23003) (b := 2147483579) (by omega)
    omega
  · have := Int.emod_lt_of_pos (c % 2147483549 * 44017 + 877 * 0 + 23003) (b := 2147483579) (by omega)
    omega
theorem pot_ok (ns : List Int) : ∃ pot ρ, f__law_pot [.list (ns.map .int), .int 0] = .ok pot ρ ∧ Pot pot := by
  have h2 : (2 : Nat) ≤ sizeLine := by decide
  have hpow : gPow (.int 10) (.int 18) = some (.int (10 ^ 18)) := by simp [gPow, gII]
  have fin : ∀ (c : Int) (S : D), 0 ≤ c → ∃ pot ρ, yRet (xLst (xCons (xCall (on2 max2D) (xCons (xC (PyData.int 0)) (xCons (xBin gSub (xVar 2) (xBin gPow (xC (PyData.int 10)) (xC (PyData.int 18)))) xNil))) (xCons (xBin gAdd (xBin gMod (xCall (on1 intD) (xCons (xBin gAdd (xBin gAdd (xBin gMul (xBin gMod (xCall (on1 intD) (xCons (xVar 2) xNil)) (xC (PyData.int 2147483549))) (xC (PyData.int 44017))) (xBin gMul (xC (PyData.int 877)) (xVar 1))) (xC (PyData.int 23003))) xNil)) (xC (PyData.int 2147483579))) (xC (PyData.int 1))) xNil))) [some S, some (.int 0), some (.int c)] = .ok (.ret pot) ρ ∧ Pot pot := fun c S hc => by
    have om : okMul (c % 2147483549) 44017 = true := by simp [okMul]
    have om2 : okMul 877 0 = true := by simp [okMul]
    refine ⟨_, [some S, some (.int 0), some (.int c)], ?_, pot_of c hc⟩
    simp [yRet, xLst, xCons, xNil, xCall, on1, on2, max2D, intD, xBin, xVar, xC, lift, Out.bind, De.gSub, gAdd, gMul, gMod, gII, hpow, om, om2, h2]
  have s1 : ∃ c : Int, 0 ≤ c ∧ ySet 2 (xIf (xB (xBin gLt (xVar 1) (xCallS 0 (fun ds => some (.int ds.length))))) (xCall (on1 absD) (xCons (xIxS 0 (xVar 1)) xNil)) (xBin gAdd (xBin gMul (xC (PyData.int 2203)) (xVar 1)) (xC (PyData.int 1301)))) [some (.list (ns.map .int)), some (.int 0), none] = .ok .nx [some (.list (ns.map .int)), some (.int 0), some (.int c)] := by
    cases ns with
    | nil =>
      refine ⟨1301, by decide, ?_⟩
      have om : okMul 2203 0 = true := by simp [okMul]
      simp [ySet, xIf, xB, xBin, xVar, xC, xCallS, lift, Out.bind, gLt, gII, gAdd, gMul, om]
    | cons n ns =>
      refine ⟨if n < 0 then -n else n, by split <;> omega, ?_⟩
      have hl : (0 : Int) < (ns.length : Int) + 1 := by omega
      simp [ySet, xIf, xB, xBin, xVar, xC, xCallS, lift, Out.bind, gLt, gII, hl, xCall, on1, absD, xCons, xNil, xIxS, gIx, at0]
  obtain ⟨c, hc, s1⟩ := s1
  obtain ⟨pot, ρ, e, hp⟩ := fin c (.list (ns.map .int)) hc
  obtain ⟨ρ', e'⟩ := Ret.run (N := 3) (n := 2) (rm := .ml) (b := b__law_pot) (ds := [.list (ns.map .int), .int 0]) rfl (Ret.next s1 ⟨ρ, e⟩)
  exact ⟨pot, ρ', e', hp⟩
/-! ### names -/
def chkN (w : Str) : Bool := match f_is_name [.str w], f__law_is_name [.str w] with
  | .ok (.bool a) _, .ok (.bool b) _ => a == b
  | _, _ => false
theorem cName : (WALL.all chkN) = true := by decide +kernel
theorem name_of {w : Str} (h : w ∈ WALL) : ∃ b, (∃ ρ, f_is_name [.str w] = .ok (.bool b) ρ) ∧ ∃ ρ, f__law_is_name [.str w] = .ok (.bool b) ρ := by
  have := List.all_eq_true.mp cName w h
  unfold chkN at this
  split at this
  case h_2 => cases this
  rename_i a ρ1 b ρ2 e1 e2
  have e : a = b := by simpa using this
  subst e
  exact ⟨a, ⟨ρ1, e1⟩, ⟨ρ2, e2⟩⟩
theorem rep1 (b : Bool) : ∃ s : Str, reprD (.bool b) = some (.str s) ∧ PyData.strOk s = true := by
  cases b
  · exact ⟨_, (by kernel_rfl : reprD (.bool false) = some (.str (PyData.shown (.bool false)))), by decide +kernel⟩
  · exact ⟨_, (by kernel_rfl : reprD (.bool true) = some (.str (PyData.shown (.bool true)))), by decide +kernel⟩
theorem rep2 (c d : Bool) : ∃ s : Str, reprD (.list [.bool c, .bool d]) = some (.str s) ∧ PyData.strOk s = true := by
  have key : ∀ c d : Bool, reprD (.list [.bool c, .bool d]) = some (.str (PyData.shown (.list [.bool c, .bool d]))) ∧ PyData.strOk (PyData.shown (.list [.bool c, .bool d])) = true := by
    intro c d
    cases c <;> cases d <;> exact ⟨by kernel_rfl, by decide +kernel⟩
  exact ⟨_, key c d⟩
theorem ne_self {s : Str} (h : PyData.strOk s = true) : gNe (.str s) (.str s) = some (.bool false) := by
  have hs : (SeqAt.shaped (PyData.str s) && SeqAt.shaped (PyData.str s)) = true := by simp [SeqAt.shaped, PyData.canLay0, PyData.depth, h]
  unfold gNe
  rw [if_pos hs]
  simp [PyData.eqv]
theorem ne_bool (b : Bool) : gNe (.bool b) (.bool b) = some (.bool false) := by cases b <;> rfl
def nameB : De.Env → Out SO := (yIf (xB (xBin gNe (xCall (on1 reprD) (xCons (xFn f_is_name (xCons (xVar 4) xNil)) xNil)) (xCall (on1 reprD) (xCons (xFn f__law_is_name (xCons (xVar 4) xNil)) xNil)))) (yRet (xC (PyData.bool false))) yNil)
theorem loop_names (a0 a1 a2 a3 : Option D) : ∀ (us : List Str) (x4 : Option D), (∀ w ∈ us, w ∈ WALL) → ∃ y4, forD (zName 4) nameB (sl us) [a0, a1, a2, a3, x4] = .ok .nx [a0, a1, a2, a3, y4]
  | [], x4, _ => ⟨x4, by simp [forD]⟩
  | w :: us, x4, h => by
    obtain ⟨y4, ih⟩ := loop_names a0 a1 a2 a3 us (some (.str w)) fun z hz => h z (List.mem_cons_of_mem _ hz)
    obtain ⟨b, ⟨ρ1, e1⟩, ⟨ρ2, e2⟩⟩ := name_of (h w List.mem_cons_self)
    obtain ⟨s, er, so⟩ := rep1 b
    refine ⟨y4, ?_⟩
    have key : nameB [a0, a1, a2, a3, some (.str w)] = .ok .nx [a0, a1, a2, a3, some (.str w)] := by
      unfold nameB
      simp [yIf, xIf, xB, xBin, xCall, xCons, xNil, xFn, xVar, lift, Out.bind, Out.seal, e1, e2, on1, er, ne_self so, yNil]
    show (((zName 4) (.str w) [a0, a1, a2, a3, x4]).bind fun _ ρ1 => _) = _
    simp only [zName, Out.bind, List.set_cons_succ, List.set_cons_zero, key]
    exact ih
theorem cut_sl (lo hi : Option Int) (ws : List Str) : ∃ us, cutL (sl ws) lo hi = sl us ∧ ∀ w ∈ us, w ∈ ws := by
  unfold cutL
  rw [List.length_map]
  generalize HT.sIx ws.length ws.length hi - HT.sIx ws.length 0 lo = n
  generalize HT.sIx ws.length 0 lo = m
  refine ⟨(ws.drop m).take n, ?_, fun w hw => List.mem_of_mem_drop (List.mem_of_mem_take hw)⟩
  show ((ws.map PyData.str).drop m).take n = ((ws.drop m).take n).map PyData.str
  rw [List.map_take, List.map_drop]
theorem fn1_at {g : List D → Out D} {pot : D} {P : D → Prop} (S x2 x3 x4 : Option D) (hd : Drew (g [pot]) P) : ∃ z pot', xFn1 1 g xNil [S, some pot, x2, x3, x4] = .ok z [S, some pot', x2, x3, x4] ∧ Pot pot' ∧ P z := by
  obtain ⟨z, ρ2, pot', h1, h2, h3, h4⟩ := hd
  refine ⟨z, pot', ?_, h3, h4⟩
  simp [xFn1, xNil, Out.bind, h1, sealAt, h2]
def turnB : De.Env → Out SO := (ySeq (ySet 2 (xFn1 1 f__law_string xNil)) (ySeq (yIf (xOrT (xB (xBin gNe (xCall (on1 reprD) (xCons (xLst (xCons (xFn f_is_command (xCons (xVar 2) xNil)) (xCons (xFn f_is_deed (xCons (xVar 2) xNil)) xNil))) xNil)) (xCall (on1 reprD) (xCons (xFn f__law_due (xCons (xVar 2) xNil)) xNil)))) (xB (xBin gNe (xFnK f_is_command id (xCons (xVar 2) xNil)) (xBin gIx (xFn f__law_due (xCons (xVar 2) xNil)) (xC (PyData.int 0)))))) (yRet (xC (PyData.bool false))) yNil) (yFor (xItems (xSl (xMtL splitD (xVar 2) (xCons (xC (PyData.str " ")) xNil)) (xPart (xC (PyData.int 1))) (xPart (xC (PyData.int 3))))) (zName 4) (yIf (xB (xBin gNe (xCall (on1 reprD) (xCons (xFn f_is_name (xCons (xVar 4) xNil)) xNil)) (xCall (on1 reprD) (xCons (xFn f__law_is_name (xCons (xVar 4) xNil)) xNil)))) (yRet (xC (PyData.bool false))) yNil))))
theorem turn_ok (S x2 x3 x4 : Option D) {pot : D} (hp : Pot pot) : ∃ pot' y2 y4, turnB [S, some pot, x2, x3, x4] = .ok .nx [S, some pot', y2, x3, y4] ∧ Pot pot' := by
  obtain ⟨z, pot', e, hp', sep, w0, r, rfl, hsep, hs, hl⟩ := fn1_at S x2 x3 x4 (string_ok hp)
  obtain ⟨r', hsp, hln, hn, hs'⟩ := words_of hsep hs hl
  generalize Txt.join sep (w0 :: r) = v at e hsp hln
  obtain ⟨c, d, ⟨ρ1, hc⟩, ⟨ρ2, hd⟩, ⟨ρ3, hdue⟩⟩ := agree hsp hln hn hs'.h0 hs'.hr hs'.ht
  obtain ⟨s, er, so⟩ := rep2 c d
  have h2 : (2 : Nat) ≤ sizeLine := by decide
  have s1 : ySet 2 (xFn1 1 f__law_string xNil) [S, some pot, x2, x3, x4] = .ok .nx [S, some pot', some (.str v), x3, x4] := by
    unfold ySet
    rw [e]
    rfl
  have s2 : (xOrT (xB (xBin gNe (xCall (on1 reprD) (xCons (xLst (xCons (xFn f_is_command (xCons (xVar 2) xNil)) (xCons (xFn f_is_deed (xCons (xVar 2) xNil)) xNil))) xNil)) (xCall (on1 reprD) (xCons (xFn f__law_due (xCons (xVar 2) xNil)) xNil)))) (xB (xBin gNe (xFnK f_is_command id (xCons (xVar 2) xNil)) (xBin gIx (xFn f__law_due (xCons (xVar 2) xNil)) (xC (PyData.int 0)))))) [S, some pot', some (.str v), x3, x4] = .ok false [S, some pot', some (.str v), x3, x4] := by
    simp [xOrT, xB, xBin, xCall, xCons, xNil, xLst, xFn, xFnK, xVar, xC, lift, Out.bind, Out.seal, hc, hd, hdue, h2, on1, er, ne_self so, ne_bool, gIx, at0]
  have hspD := split_sp hsp hln
  obtain ⟨us, hu, hus⟩ := cut_sl (some 1) (some 3) (w0 :: r')
  obtain ⟨y4, hf⟩ := loop_names S (some pot') (some (.str v)) x3 us x4 fun w hw => by
    rcases List.mem_cons.mp (hus w hw) with e | h
    · rw [e]; exact hs'.h0
    · exact hs'.hr w h
  have hi : xItems (xSl (xMtL splitD (xVar 2) (xCons (xC (PyData.str " ")) xNil)) (xPart (xC (PyData.int 1))) (xPart (xC (PyData.int 3)))) [S, some pot', some (.str v), x3, x4] = .ok (sl us) [S, some pot', some (.str v), x3, x4] := by
    have hu' : cutL (PyData.str w0 :: sl r') (some 1) (some 3) = sl us := hu
    simp [xItems, xSl, xMtL, xVar, xC, xCons, xNil, xPart, lift, Out.bind, hspD, gSl, hu', itemsD]
  refine ⟨pot', some (.str v), y4, ?_, hp'⟩
  unfold turnB
  refine (go_seq s1).trans ((go_seq (if_nx s2)).trans ?_)
  unfold yFor
  rw [hi]
  exact hf
theorem loop_turns (S : Option D) : ∀ (ds : List D) (pot : D) (x2 x3 x4 : Option D), Pot pot → ∃ pot' y2 y3 y4, forD (zName 3) turnB ds [S, some pot, x2, x3, x4] = .ok .nx [S, some pot', y2, y3, y4]
  | [], pot, x2, x3, x4, _ => ⟨pot, x2, x3, x4, by simp [forD]⟩
  | d :: ds, pot, x2, x3, x4, hp => by
    obtain ⟨pot1, z2, z4, e, hp1⟩ := turn_ok S x2 (some d) x4 hp
    obtain ⟨pot', y2, y3, y4, ih⟩ := loop_turns S ds pot1 z2 (some d) z4 hp1
    refine ⟨pot', y2, y3, y4, ?_⟩
    show (((zName 3) d [S, some pot, x2, x3, x4]).bind fun _ ρ1 => _) = _
    simp only [zName, Out.bind, List.set_cons_succ, List.set_cons_zero, e]
    exact ih
theorem odd_ok (S P : Option D) : ∃ y2, (yFor (xItems (xLst (xCons (xC PyData.none) (xCons (xC (PyData.int 5)) (xCons (xC (PyData.bool true)) (xCons (xLst xNil) (xCons (xLst (xCons (xC (PyData.str "undo")) xNil)) (xCons (xTup (xCons (xC (PyData.str "undo")) xNil)) (xCons xNewD (xCons (xC (PyData.str "")) (xCons (xC (PyData.str " ")) (xCons (xC (PyData.str "undo ")) (xCons (xC (PyData.str " undo")) (xCons (xC (PyData.str "undo\n")) xNil)))))))))))))) (zName 2) (yIf (xOrT (xB (xBin gIsNotB (xFn f_is_command (xCons (xVar 2) xNil)) (xC (PyData.bool false)))) (xOrT (xB (xBin gIsNotB (xFnK f_is_deed id (xCons (xVar 2) xNil)) (xC (PyData.bool false)))) (xB (xBin gIsNotB (xFn f_is_name (xCons (xVar 2) xNil)) (xC (PyData.bool false)))))) (yRet (xC (PyData.bool false))) yNil)) [S, P, none, none, none] = .ok .nx [S, P, y2, none, none] := ⟨some (.str "undo\n"), by kernel_rfl⟩
theorem plain (ns : List Int) (_ : ns.length ≤ 63) : ∃ ρ, f_law [.list (ns.map .int)] = .ok (.bool true) ρ := by
  obtain ⟨pot, ρp, ep, hp⟩ := pot_ok ns
  have s1 : ySet 1 (xFnS 0 f__law_pot (xCons (xC (PyData.int 0)) xNil)) [some (.list (ns.map .int)), none, none, none, none] = .ok .nx [some (.list (ns.map .int)), some pot, none, none, none] := by
    generalize ns.map PyData.int = S at ep ⊢
    simp [ySet, xFnS, xCons, xNil, xC, Out.bind, ep, Out.seal]
  obtain ⟨y2, s2⟩ := odd_ok (some (.list (ns.map .int))) (some pot)
  obtain ⟨pot', z2, z3, z4, hf⟩ := loop_turns (some (.list (ns.map .int))) (intsD 0 6) pot y2 none none hp
  have s3 : yFor (xRng rng1D (xCons (xC (PyData.int 6)) xNil)) (zName 3) turnB [some (.list (ns.map .int)), some pot, y2, none, none] = .ok .nx [some (.list (ns.map .int)), some pot', z2, z3, z4] := by
    have hi : xRng rng1D (xCons (xC (PyData.int 6)) xNil) [some (.list (ns.map .int)), some pot, y2, none, none] = .ok (intsD 0 6) [some (.list (ns.map .int)), some pot, y2, none, none] := by
      simp [xRng, xCons, xNil, xC, Out.bind, rng1D, lift]
    unfold yFor
    rw [hi]
    exact hf
  exact Ret.run rfl (Ret.next s1 (Ret.next s2 (Ret.next s3 (Ret.of rfl))))
end C95
set_option maxHeartbeats 4000000
namespace C95
open PySem PySem.Spec PyProof.Rows L2 De
theorem law_end {w : World} {mg : Str → Option Value} {fa' : Addr} {h : Heap} (Y : hk.says w h) (G : h.Ns mainGlobals mg) (hmg : mg "law" = some (.ref fa')) (plain : ∀ ns : List Int, ns.length ≤ 63 → ∃ ρ, f_law [.list (ns.map .int)] = .ok (.bool true) ρ) :
    ∃ (K : PySem.W.Frag) (fd : FuncData) (xt : Nat → Addr × Str) (g : List PyData → Out PyData), K.In h ∧ (∀ (s : Shared) (u : Value), BindsTo s fd ⟨[u], []⟩ [("script", u)]) ∧ (∀ ns : List Int, ns.length ≤ 63 → ∃ ρ, g [.list (ns.map .int)] = .ok (.bool true) ρ) ∧
      ∀ base : Heap, K.In base → base.Ns mainGlobals mg → FnD R.prog w K mg base xt 12 fa' fd ["script"] ⟨false, [.sc], [.sc], .im⟩ g := by
  obtain ⟨K, inn, c⟩ := Y
  have q : Fc w K mg := ⟨h, inn, G, c⟩
  obtain ⟨fd, U⟩ := fd_law q
  have e := hmg.symm.trans (gg_law q)
  cases e
  refine ⟨K, fd, fun _ => (0, "x"), f_law, inn, fun s u => FunD.bindsA (ps := ["script"]) U (fun _ _ _ _ _ _ us hl => match us, hl with | [_], _ => rfl) s [u] rfl, plain, fun base _ _ => ?_⟩
  obtain ⟨fd', U', _, _, F⟩ := (ok_law (P := R.prog) (base := base) (xt := fun _ => (0, "x")) q).run
  obtain ⟨_, _, _, _, _, _, _, _, _, _, e1, l1, _⟩ := U.ex
  obtain ⟨_, _, _, _, _, _, _, _, _, _, e2, l2, _⟩ := U'.ex
  rw [l1] at l2
  cases l2
  exact F
end C95
open PySem PySem.W PySem.Calls PyProof.Rows
theorem PySem.Challenge.cw_curvemeets_k95_any_string_as_command_holds : PySem.Challenge.rw_curvemeets_k95_any_string_as_command.Holds := by
  w_on; o_law
  refine HandSHeadRun.head_any (r := OpenLaw.row PySem.Challenge.rw_curvemeets_k95_any_string_as_command) (q := view (OpenLaw.row PySem.Challenge.rw_curvemeets_k95_any_string_as_command).prog [77]) (H := C95.hk) (ob := C95.ob) (M := 3000) (loose := C95.loose) (d := HandSHeadRun.topDef (OpenLaw.row PySem.Challenge.rw_curvemeets_k95_any_string_as_command).prog 77) (kwd := []) C95.ob_eq
    (by kernel_rfl) (fun s => by kernel_rfl) C95.run (by kernel_rfl) (by kernel_rfl) (by kernel_rfl) (by rfl) (by first | assumption | decide +kernel) (by decide +kernel) ⟨rfl, rfl, rfl, rfl, rfl, by decide +kernel⟩ ?hw ?hc
  case hw => w_witness2
  case hc =>
    refine De.walkD (l := PySem.Challenge.rw_curvemeets_k95_any_string_as_command) (n := 63) (k := 12) (x := "script") rfl (by decide) (by kernel_rfl) ⟨rfl, by decide, by decide⟩ ?F
    intro w mg fa h Y G hmg0
    have hmg : mg ("law" : PySem.Str) = some (.ref fa) := by
      have e : (HandSHeadRun.topDef (OpenLaw.row PySem.Challenge.rw_curvemeets_k95_any_string_as_command).prog 77).name = ("law" : PySem.Str) := by kernel_rfl
      rw [← e]
      exact hmg0
    exact C95.law_end Y G hmg C95.plain
