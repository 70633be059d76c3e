import PyProof.Rows.All
import Wide.All
import OpenK.AllK
import Wide.FinOn
import HandS.ForMost
import HandS.Walk
import HandS.IsInst
import HandS.SortInts
import HandS.Zip
import HandS.TupLe
import HandS.TupAny
import HandS.SetFor
import HandS.Strs
import PySem.Challenge.RW_setsadded_k60_whole_greatest_clocks_for
set_option Elab.async false
set_option linter.all false
set_option maxRecDepth 100000
namespace PL
open PySem L2
/-! ### plain data, results, slots -/
abbrev D := PyData
/-- what an expression gives: data that stays, a new object, an object of a slot -/
inductive Res where
  | im (d : D) | fr (d : D) | bo (d : D)
def Res.d : Res → D
  | .im d => d | .fr d => d | .bo d => d
@[simp] theorem d_im (d : D) : Res.d (.im d) = d := rfl
@[simp] theorem d_fr (d : D) : Res.d (.fr d) = d := rfl
@[simp] theorem d_bo (d : D) : Res.d (.bo d) = d := rfl
inductive SV where
  | val (d : D) | own (d : D) | cup | scr (ns : List Int)
abbrev Sl := List (Option SV)
structure PEnds where
  nx : Sl → Prop
  rt : Res → Prop
  bk : Sl → Prop := fun _ => False
  ct : Sl → Prop := fun _ => False
abbrev WE := Sl → (Res → Sl → Prop) → Prop
abbrev WT := Sl → (Bool → Sl → Prop) → Prop
abbrev WA := Sl → (List D → Sl → Prop) → Prop
abbrev WS := PEnds → Sl → Prop
/-- a def's promise over plain data -/
abbrev FSpec := List D → (Res → Prop) → Prop

/-! ### what data stands where -/
mutual
def Rep (K : PySem.W.Frag) (W : Hp) : D → V → Prop
  | .none, v => v = .non
  | .bool b, v => v = .bl b
  | .int i, v => v = .int i
  | .str s, v => v = .str s
  | .list ds, v => ∃ a vs, v = .ref a ∧ W a = some (.lst vs) ∧ RepAll K W ds vs
  | .tuple ds, v => ∃ a vs, v = .ref a ∧ SqT K W a vs ∧ RepAll K W ds vs
  | .dict _, _ => False
def RepAll (K : PySem.W.Frag) (W : Hp) : List D → List V → Prop
  | [], vs => vs = []
  | d :: ds, vs => ∃ v r, vs = v :: r ∧ Rep K W d v ∧ RepAll K W ds r
end
/-- all of the one stands in the other -/
def Sub (W H : Hp) : Prop := ∀ a o, W a = some o → H a = some o
theorem Sub.refl (W : Hp) : Sub W W := fun _ _ h => h
theorem Sub.trans {A B C : Hp} (h : Sub A B) (g : Sub B C) : Sub A C := fun a o q => g a o (h a o q)
theorem Sub.sqT {K : PySem.W.Frag} {W H : Hp} {a : Addr} {xs : List V} (s : Sub W H) (h : SqT K W a xs) : SqT K H a xs := by
  rcases h with (h | ⟨o, h⟩) | h
  · exact .inl (.inl (s _ _ h))
  · exact .inl (.inr ⟨o, s _ _ h⟩)
  · exact .inr h
theorem Sub.sqL {K : PySem.W.Frag} {W H : Hp} {a : Addr} {xs : List V} (s : Sub W H) (h : SqL K W a xs) : SqL K H a xs := by
  rcases h with (h | ⟨o, h⟩) | h
  · exact .inl (.inl (s _ _ h))
  · exact .inl (.inr ⟨o, s _ _ h⟩)
  · exact .inr h
mutual
theorem Rep.mono {K : PySem.W.Frag} {W W' : Hp} (s : Sub W W') : ∀ (d : D) {v : V}, Rep K W d v → Rep K W' d v
  | .none, _, h => by simpa [Rep] using h
  | .bool _, _, h => by simpa [Rep] using h
  | .int _, _, h => by simpa [Rep] using h
  | .str _, _, h => by simpa [Rep] using h
  | .list ds, _, h => by
    simp only [Rep] at h ⊢
    obtain ⟨a, vs, e, q, r⟩ := h
    exact ⟨a, vs, e, s _ _ q, RepAll.mono s ds r⟩
  | .tuple ds, _, h => by
    simp only [Rep] at h ⊢
    obtain ⟨a, vs, e, q, r⟩ := h
    exact ⟨a, vs, e, s.sqT q, RepAll.mono s ds r⟩
  | .dict _, _, h => by simp only [Rep] at h
theorem RepAll.mono {K : PySem.W.Frag} {W W' : Hp} (s : Sub W W') : ∀ (ds : List D) {vs : List V}, RepAll K W ds vs → RepAll K W' ds vs
  | [], _, h => by simpa [RepAll] using h
  | d :: ds, _, h => by
    simp only [RepAll] at h ⊢
    obtain ⟨v, r, e, q, t⟩ := h
    exact ⟨v, r, e, Rep.mono s d q, RepAll.mono s ds t⟩
end
mutual
theorem Rep.dp {K : PySem.W.Frag} {W H : Hp} (s : Sub W H) : ∀ (d : D) {v : V}, Rep K W d v → Dp K H v d
  | .none, _, h => by simp only [Rep] at h; subst h; exact .non
  | .bool b, _, h => by simp only [Rep] at h; subst h; exact .bl b
  | .int i, _, h => by simp only [Rep] at h; subst h; exact .int i
  | .str x, _, h => by simp only [Rep] at h; subst h; exact .str x
  | .list ds, _, h => by
    simp only [Rep] at h
    obtain ⟨a, vs, rfl, q, r⟩ := h
    exact .lst (SqL.of (s _ _ q)) (RepAll.dp s ds r)
  | .tuple ds, _, h => by
    simp only [Rep] at h
    obtain ⟨a, vs, rfl, q, r⟩ := h
    exact .tup (s.sqT q) (RepAll.dp s ds r)
  | .dict _, _, h => by simp only [Rep] at h
theorem RepAll.dp {K : PySem.W.Frag} {W H : Hp} (s : Sub W H) : ∀ (ds : List D) {vs : List V}, RepAll K W ds vs → DpAll K H vs ds
  | [], _, h => by simp only [RepAll] at h; subst h; exact .nil
  | d :: ds, _, h => by
    simp only [RepAll] at h
    obtain ⟨v, r, rfl, q, t⟩ := h
    exact .cons (Rep.dp s d q) (RepAll.dp s ds t)
end
section
variable {K : PySem.W.Frag} {W H : Hp}
theorem RepAll.length : ∀ {ds : List D} {vs : List V}, RepAll K W ds vs → vs.length = ds.length
  | [], _, h => by simp only [RepAll] at h; subst h; rfl
  | d :: ds, _, h => by
    simp only [RepAll] at h
    obtain ⟨v, r, rfl, _, t⟩ := h
    simp [RepAll.length t]
theorem RepAll.nil : RepAll K W [] [] := by simp only [RepAll]
theorem RepAll.cons {d : D} {ds : List D} {v : V} {vs : List V} (h : Rep K W d v) (t : RepAll K W ds vs) : RepAll K W (d :: ds) (v :: vs) := by
  simp only [RepAll]; exact ⟨v, vs, rfl, h, t⟩
theorem RepAll.append : ∀ {ds es : List D} {vs us : List V}, RepAll K W ds vs → RepAll K W es us → RepAll K W (ds ++ es) (vs ++ us)
  | [], _, _, _, h, g => by simp only [RepAll] at h; subst h; simpa using g
  | d :: ds, es, _, us, h, g => by
    simp only [RepAll] at h
    obtain ⟨v, r, rfl, q, t⟩ := h
    exact RepAll.cons q (RepAll.append t g)
theorem RepAll.get : ∀ {ds : List D} {vs : List V} {i : Nat} {d : D}, RepAll K W ds vs → ds[i]? = some d → ∃ v, vs[i]? = some v ∧ Rep K W d v
  | [], _, _, _, _, e => by simp at e
  | d :: ds, _, 0, _, h, e => by
    simp only [RepAll] at h
    obtain ⟨v, r, rfl, q, t⟩ := h
    simp at e; subst e
    exact ⟨v, rfl, q⟩
  | d :: ds, _, i + 1, _, h, e => by
    simp only [RepAll] at h
    obtain ⟨v, r, rfl, q, t⟩ := h
    obtain ⟨u, h1, h2⟩ := RepAll.get (i := i) t (by simpa using e)
    exact ⟨u, by simpa using h1, h2⟩
theorem RepAll.getV : ∀ {ds : List D} {vs : List V} {i : Nat} {v : V}, RepAll K W ds vs → vs[i]? = some v → ∃ d, ds[i]? = some d ∧ Rep K W d v := fun {ds vs i v} h e => by
  have hl := h.length
  have hi : i < vs.length := (List.getElem?_eq_some_iff.mp e).1
  have hi' : i < ds.length := by omega
  obtain ⟨u, h1, h2⟩ := h.get (List.getElem?_eq_getElem hi')
  rw [e] at h1; cases h1
  exact ⟨_, List.getElem?_eq_getElem hi', h2⟩
theorem RepAll.drop : ∀ {ds : List D} {vs : List V} (n : Nat), RepAll K W ds vs → RepAll K W (ds.drop n) (vs.drop n)
  | _, _, 0, h => h
  | [], _, n + 1, h => by simp only [RepAll] at h; subst h; exact RepAll.nil
  | d :: ds, _, n + 1, h => by
    simp only [RepAll] at h
    obtain ⟨v, r, rfl, q, t⟩ := h
    exact RepAll.drop n t
theorem RepAll.take : ∀ {ds : List D} {vs : List V} (n : Nat), RepAll K W ds vs → RepAll K W (ds.take n) (vs.take n)
  | _, _, 0, h => RepAll.nil
  | [], _, n + 1, h => by simp only [RepAll] at h; subst h; exact RepAll.nil
  | d :: ds, _, n + 1, h => by
    simp only [RepAll] at h
    obtain ⟨v, r, rfl, q, t⟩ := h
    exact RepAll.cons q (RepAll.take n t)
theorem RepAll.set : ∀ {ds : List D} {vs : List V} {d : D} {v : V} (i : Nat), Rep K W d v → RepAll K W ds vs → RepAll K W (ds.set i d) (vs.set i v)
  | [], _, _, _, _, _, h => by simp only [RepAll] at h; subst h; exact RepAll.nil
  | e :: ds, _, d, v, 0, g, h => by
    simp only [RepAll] at h
    obtain ⟨u, r, rfl, q, t⟩ := h
    exact RepAll.cons g t
  | e :: ds, _, d, v, i + 1, g, h => by
    simp only [RepAll] at h
    obtain ⟨u, r, rfl, q, t⟩ := h
    exact RepAll.cons q (RepAll.set i g t)
theorem RepAll.reverse : ∀ {ds : List D} {vs : List V}, RepAll K W ds vs → RepAll K W ds.reverse vs.reverse
  | [], _, h => by simp only [RepAll] at h; subst h; exact RepAll.nil
  | d :: ds, _, h => by
    simp only [RepAll] at h
    obtain ⟨u, r, rfl, q, t⟩ := h
    rw [List.reverse_cons, List.reverse_cons]
    exact RepAll.append (RepAll.reverse t) (RepAll.cons q RepAll.nil)
theorem RepAll.rep {ds : List D} {vs : List V} (h : RepAll K W ds vs) : ∀ n : Nat, RepAll K W (List.replicate n ds).flatten (List.replicate n vs).flatten
  | 0 => RepAll.nil
  | n + 1 => by
    rw [List.replicate_succ, List.replicate_succ, List.flatten_cons, List.flatten_cons]
    exact RepAll.append h (RepAll.rep h n)
theorem RepAll.ints : ∀ {ns : List Int} {vs : List V}, RepAll K W (ns.map PyData.int) vs → vs = ns.map V.int
  | [], _, h => by simpa [RepAll] using h
  | n :: ns, _, h => by
    simp only [List.map_cons, RepAll, Rep] at h
    obtain ⟨v, r, rfl, rfl, t⟩ := h
    rw [RepAll.ints t]; rfl
theorem RepAll.of_ints : ∀ {ns : List Int}, RepAll K W (ns.map PyData.int) (ns.map V.int)
  | [] => RepAll.nil
  | n :: ns => RepAll.cons (by simp only [Rep]) RepAll.of_ints
theorem RepAll.bools : ∀ {ns : List Bool} {vs : List V}, RepAll K W (ns.map PyData.bool) vs → vs = ns.map V.bl
  | [], _, h => by simpa [RepAll] using h
  | n :: ns, _, h => by
    simp only [List.map_cons, RepAll, Rep] at h
    obtain ⟨v, r, rfl, rfl, t⟩ := h
    rw [RepAll.bools t]; rfl
end

/-! ### the world: what stays as it is, and the cup -/
structure Wd where
  W : Hp
  pc : Option Addr
def OwnAt (K : PySem.W.Frag) (w : Wd) (H : Hp) (p : Addr) : D → Prop
  | .list ds => ∃ vs, H p = some (.lst vs) ∧ RepAll K w.W ds vs
  | _ => False
structure Cc where
  K : PySem.W.Frag
  H0 : Hp
  W0 : Wd
def SvOk (C : Cc) (w : Wd) (H : Hp) (v : V) : SV → Prop
  | .val d => Rep C.K w.W d v
  | .own d => ∃ p, v = .ref p ∧ C.H0 p = none ∧ w.W p = none ∧ w.pc ≠ some p ∧ OwnAt C.K w H p d
  | .cup => ∃ p, v = .ref p ∧ w.pc = some p
  | .scr ns => ∃ a, v = .ref a ∧ C.W0.pc ≠ some a ∧ SqL C.K C.H0 a (ns.map .int)
def OwnSl (ρ : Sl) (σ : St) (a : Addr) : Prop := ∃ (i : Nat) (d : D), ρ[i]? = some (some (.own d)) ∧ σ[i]? = some (some (.ref a))
def CupAt (w : Wd) (H : Hp) : Prop := ∀ p, w.pc = some p → w.W p = none ∧ ∃ a b : Int, 0 ≤ a ∧ (0 ≤ b ∧ b < 2 ^ 32) ∧ H p = some (.lst [.int a, .int b])
structure StOk (C : Cc) (ρ : Sl) (w : Wd) (σ : St) (H : Hp) : Prop where
  sub : Sub w.W H
  cup : CupAt w H
  sl : ∀ (i : Nat) (sv : SV), ρ[i]? = some (some sv) → ∃ v, σ[i]? = some (some v) ∧ SvOk C w H v sv
  dist : ∀ (i j : Nat) (d e : D) (p : Addr), ρ[i]? = some (some (.own d)) → ρ[j]? = some (some (.own e)) → σ[i]? = some (some (.ref p)) → σ[j]? = some (some (.ref p)) → i = j
  old : ∀ a o, C.H0 a = some o → C.W0.pc ≠ some a → H a = some o
  new : ∀ a o, w.W a = some o → C.W0.W a = some o ∨ C.H0 a = none
  ext : Sub C.W0.W w.W
  pce : w.pc = C.W0.pc
  len : ρ.length = σ.length
/-- behind an expression -/
structure Post (C : Cc) (ρ : Sl) (w : Wd) (σ : St) (H : Hp) (ρ' : Sl) (w' : Wd) (H' : Hp) : Prop where
  st : StOk C ρ' w' σ H'
  ext : Sub w.W w'.W
  pc : w'.pc = w.pc
  frm : ∀ a o, H a = some o → w.pc ≠ some a → H' a = some o
  new : ∀ a o, w'.W a = some o → w.W a = some o ∨ H a = none ∨ OwnSl ρ σ a
  own : ∀ a, OwnSl ρ' σ a → OwnSl ρ σ a
def RepR (C : Cc) (ρ : Sl) (w : Wd) (σ : St) (H : Hp) (v : V) : Res → Prop
  | .im d => Rep C.K w.W d v
  | .fr d => ∃ p, v = .ref p ∧ C.H0 p = none ∧ w.W p = none ∧ w.pc ≠ some p ∧ ¬ OwnSl ρ σ p ∧ OwnAt C.K w H p d
  | .bo d => ∃ p, v = .ref p ∧ w.pc ≠ some p ∧ OwnAt C.K w H p d
/-- a new thing was not there before, or is a slot's that was given up -/
def Fre (ρ : Sl) (σ : St) (H : Hp) (v : V) : Res → Prop
  | .fr _ => ∀ p, v = .ref p → H p = none ∨ OwnSl ρ σ p
  | _ => True
/-- data to be read: staying, or an object's -/
def Cont (C : Cc) (w : Wd) (H : Hp) (v : V) (d : D) : Prop := Rep C.K w.W d v ∨ ∃ p, v = .ref p ∧ w.pc ≠ some p ∧ OwnAt C.K w H p d

section
variable {C : Cc} {ρ ρ' ρ'' : Sl} {w w' w'' : Wd} {σ : St} {H H' H'' : Hp} {v : V} {r : Res} {d : D}
theorem OwnAt.there {K : PySem.W.Frag} {w : Wd} {H : Hp} {p : Addr} {d : D} (h : OwnAt K w H p d) : ∃ o, H p = some o := by
  cases d <;> simp only [OwnAt] at h
  obtain ⟨vs, e, _⟩ := h
  exact ⟨_, e⟩
theorem OwnAt.keep {K : PySem.W.Frag} {w w' : Wd} {H H' : Hp} {p : Addr} {d : D} (h : OwnAt K w H p d) (s : Sub w.W w'.W) (e : ∀ o, H p = some o → H' p = some o) : OwnAt K w' H' p d := by
  cases d <;> simp only [OwnAt] at h ⊢
  obtain ⟨vs, q, t⟩ := h
  exact ⟨vs, e _ q, RepAll.mono s _ t⟩
theorem SvOk.keep {sv : SV} (h : SvOk C w H v sv) (s : Sub w.W w'.W) (pc : w'.pc = w.pc) (frm : ∀ a o, H a = some o → w.pc ≠ some a → H' a = some o) (nw : ∀ d p, sv = .own d → v = .ref p → w'.W p = none) : SvOk C w' H' v sv := by
  cases sv with
  | val d => exact Rep.mono s d h
  | own d =>
    obtain ⟨p, e, h0, hw, hp, ho⟩ := h
    exact ⟨p, e, h0, nw d p rfl e, by rw [pc]; exact hp, OwnAt.keep ho s fun o q => frm p o q hp⟩
  | cup =>
    obtain ⟨p, e, h⟩ := h
    exact ⟨p, e, by rw [pc]; exact h⟩
  | scr ns => exact h
theorem RepR.cont (h : RepR C ρ w σ H v r) : Cont C w H v r.d := by
  cases r with
  | im d => exact .inl h
  | fr d => obtain ⟨p, e, _, _, h3, _, h5⟩ := h; exact .inr ⟨p, e, h3, h5⟩
  | bo d => obtain ⟨p, e, h3, h5⟩ := h; exact .inr ⟨p, e, h3, h5⟩
theorem Post.refl (st : StOk C ρ w σ H) : Post C ρ w σ H ρ w H := ⟨st, Sub.refl _, rfl, fun _ _ h _ => h, fun _ _ h => .inl h, fun _ h => h⟩
theorem Post.back (P : Post C ρ w σ H ρ' w' H') (st : StOk C ρ w σ H) {a : Addr} (h : H' a = none) : H a = none := by
  cases q : H a with
  | none => rfl
  | some o =>
    by_cases e : w.pc = some a
    · obtain ⟨_, x, y, _, _, z⟩ := P.st.cup a (by rw [P.pc]; exact e)
      rw [h] at z; cases z
    · rw [P.frm a o q e] at h; cases h
theorem Post.trans (st : StOk C ρ w σ H) (P : Post C ρ w σ H ρ' w' H') (Q : Post C ρ' w' σ H' ρ'' w'' H'') : Post C ρ w σ H ρ'' w'' H'' where
  st := Q.st
  ext := P.ext.trans Q.ext
  pc := Q.pc.trans P.pc
  frm := fun a o h n => Q.frm a o (P.frm a o h n) (by rw [P.pc]; exact n)
  new := fun a o h => by
    rcases Q.new a o h with h | h | h
    · exact P.new a o h
    · exact .inr (.inl (P.back st h))
    · exact .inr (.inr (P.own a h))
  own := fun a h => P.own a (Q.own a h)
theorem RepR.post (h : RepR C ρ w σ H v r) (P : Post C ρ w σ H ρ' w' H') : RepR C ρ' w' σ H' v r := by
  cases r with
  | im d => exact Rep.mono P.ext d h
  | fr d =>
    obtain ⟨p, e, h0, hw, hp, hn, ho⟩ := h
    obtain ⟨o, eo⟩ := OwnAt.there ho
    refine ⟨p, e, h0, ?_, by rw [P.pc]; exact hp, fun q => hn (P.own p q), OwnAt.keep ho P.ext fun o q => P.frm p o q hp⟩
    cases q : w'.W p with
    | none => rfl
    | some z =>
      rcases P.new p z q with h | h | h
      · rw [hw] at h; cases h
      · rw [eo] at h; cases h
      · exact (hn h).elim
  | bo d =>
    obtain ⟨p, e, hp, ho⟩ := h
    exact ⟨p, e, by rw [P.pc]; exact hp, OwnAt.keep ho P.ext fun o q => P.frm p o q hp⟩
theorem Cont.post (h : Cont C w H v d) (P : Post C ρ w σ H ρ' w' H') : Cont C w' H' v d := by
  rcases h with h | ⟨p, e, hp, ho⟩
  · exact .inl (Rep.mono P.ext d h)
  · exact .inr ⟨p, e, by rw [P.pc]; exact hp, OwnAt.keep ho P.ext fun o q => P.frm p o q hp⟩
/-- a new object is laid, nothing more -/
theorem StOk.lay (st : StOk C ρ w σ H) {p : Addr} {o : HO} (hp : H p = none) : Post C ρ w σ H ρ w (upd H p o) := by
  have ne : ∀ a u, H a = some u → upd H p o a = some u := fun a u q => by rw [upd_ne (ne_of_none q hp)]; exact q
  refine ⟨⟨fun a u q => ne a u (st.sub a u q), fun a q => ?_, fun i sv q => ?_, st.dist, fun a u q n => ne a u (st.old a u q n), st.new, st.ext, st.pce, st.len⟩, Sub.refl _, rfl, fun a u q _ => ne a u q, fun _ _ h => .inl h, fun _ h => h⟩
  · obtain ⟨h1, x, y, h2, h3, h4⟩ := st.cup a q
    exact ⟨h1, x, y, h2, h3, ne a _ h4⟩
  · obtain ⟨v, h1, h2⟩ := st.sl i sv q
    refine ⟨v, h1, h2.keep (Sub.refl _) rfl (fun a u q _ => ne a u q) fun d p e e2 => ?_⟩
    subst e
    obtain ⟨p', e', _, h3, _⟩ := h2
    rw [e2] at e'; cases e'
    exact h3
/-- .. and stays -/
theorem StOk.layW (st : StOk C ρ w σ H) {p : Addr} {o : HO} (hp : H p = none) (h0 : C.H0 p = none) : Post C ρ w σ H ρ ⟨upd w.W p o, w.pc⟩ (upd H p o) := by
  have ne : ∀ a u, H a = some u → upd H p o a = some u := fun a u q => by rw [upd_ne (ne_of_none q hp)]; exact q
  have hW : w.W p = none := by
    cases q : w.W p with
    | none => rfl
    | some z => rw [st.sub p z q] at hp; cases hp
  have sW : Sub w.W (upd w.W p o) := fun a u q => by rw [upd_ne (ne_of_none q hW)]; exact q
  have wn : ∀ a u, upd w.W p o a = some u → w.W a = some u ∨ (a = p ∧ u = o) := fun a u q => by
    by_cases e : a = p
    · subst e; rw [upd_same] at q; cases q; exact .inr ⟨rfl, rfl⟩
    · rw [upd_ne e] at q; exact .inl q
  have pcne : ∀ a, w.pc = some a → a ≠ p := fun a q e => by
    obtain ⟨_, x, y, _, _, h4⟩ := st.cup a q
    rw [e, hp] at h4; cases h4
  refine ⟨⟨fun a u q => ?_, fun a q => ?_, fun i sv q => ?_, st.dist, fun a u q n => ne a u (st.old a u q n), fun a u q => ?_, st.ext.trans sW, st.pce, st.len⟩, sW, rfl, fun a u q _ => ne a u q, fun a u q => ?_, fun _ h => h⟩
  · rcases wn a u q with h | ⟨rfl, rfl⟩
    · exact ne a u (st.sub a u h)
    · exact upd_same
  · obtain ⟨h1, x, y, h2, h3, h4⟩ := st.cup a q
    exact ⟨by show upd w.W p o a = none; rw [upd_ne (pcne a q)]; exact h1, x, y, h2, h3, ne a _ h4⟩
  · obtain ⟨v, h1, h2⟩ := st.sl i sv q
    refine ⟨v, h1, h2.keep sW rfl (fun a u q _ => ne a u q) fun d p' e e2 => ?_⟩
    subst e
    obtain ⟨p2, e', _, h3, _, h5⟩ := h2
    rw [e2] at e'; cases e'
    obtain ⟨o2, eo⟩ := OwnAt.there h5
    show upd w.W p o p' = none
    rw [upd_ne (ne_of_none eo hp)]; exact h3
  · rcases wn a u q with h | ⟨rfl, rfl⟩
    · exact st.new a u h
    · exact .inr h0
  · rcases wn a u q with h | ⟨rfl, rfl⟩
    · exact .inl h
    · exact .inr (.inl hp)
/-- what the entry's heap does not know -/
theorem StOk.h0 (st : StOk C ρ w σ H) {p : Addr} (hp : H p = none) : C.H0 p = none := by
  cases q : C.H0 p with
  | none => rfl
  | some o =>
    by_cases e : C.W0.pc = some p
    · obtain ⟨_, x, y, _, _, h4⟩ := st.cup p (by rw [st.pce]; exact e)
      rw [hp] at h4; cases h4
    · rw [st.old p o q e] at hp; cases hp
theorem StOk.noW (st : StOk C ρ w σ H) {p : Addr} (hp : H p = none) : w.W p = none := by
  cases q : w.W p with
  | none => rfl
  | some z => rw [st.sub p z q] at hp; cases hp
theorem StOk.noPc (st : StOk C ρ w σ H) {p : Addr} (hp : H p = none) : w.pc ≠ some p := fun e => by
  obtain ⟨_, x, y, _, _, h4⟩ := st.cup p e
  rw [hp] at h4; cases h4
theorem StOk.noSl (st : StOk C ρ w σ H) {p : Addr} (hp : H p = none) : ¬ OwnSl ρ σ p := fun ⟨i, d, h1, h2⟩ => by
  obtain ⟨v, h3, h4⟩ := st.sl i _ h1
  rw [h2] at h3; cases h3
  obtain ⟨p', e, _, _, _, h5⟩ := h4
  cases e
  obtain ⟨o, eo⟩ := OwnAt.there h5
  rw [hp] at eo; cases eo
/-- a new list, a result -/
theorem StOk.newL (st : StOk C ρ w σ H) {p : Addr} {ds : List D} {vs : List V} (hp : H p = none) (hr : RepAll C.K w.W ds vs) :
    Post C ρ w σ H ρ w (upd H p (.lst vs)) ∧ RepR C ρ w σ (upd H p (.lst vs)) (.ref p) (.fr (.list ds)) ∧ Fre ρ σ H (.ref p) (.fr (.list ds)) :=
  ⟨st.lay hp, ⟨p, rfl, st.h0 hp, st.noW hp, st.noPc hp, st.noSl hp, vs, upd_same, hr⟩, fun q e => by cases e; exact .inl hp⟩
/-- a new tuple, a result -/
theorem StOk.newT (st : StOk C ρ w σ H) {p : Addr} {ds : List D} {vs : List V} (hp : H p = none) (hr : RepAll C.K w.W ds vs) :
    Post C ρ w σ H ρ ⟨upd w.W p (.tup vs), w.pc⟩ (upd H p (.tup vs)) ∧ RepR C ρ ⟨upd w.W p (.tup vs), w.pc⟩ σ (upd H p (.tup vs)) (.ref p) (.im (.tuple ds)) := by
  have P := st.layW (o := .tup vs) hp (st.h0 hp)
  refine ⟨P, ?_⟩
  show Rep _ _ (.tuple ds) _
  simp only [Rep]
  exact ⟨p, vs, rfl, SqT.of upd_same, RepAll.mono P.ext ds hr⟩
/-- a result that is no slot's comes to stay -/
theorem Post.cap (st : StOk C ρ w σ H) (P : Post C ρ w σ H ρ' w' H') (R : RepR C ρ' w' σ H' v r) (F : Fre ρ σ H v r) (nb : ∀ d, r ≠ .bo d) :
    ∃ w'', Post C ρ w σ H ρ' w'' H' ∧ Rep C.K w''.W r.d v := by
  cases r with
  | im d => exact ⟨w', P, R⟩
  | bo d => exact absurd rfl (nb d)
  | fr d =>
    obtain ⟨p, e, h0, hw, hp, hn, ho⟩ := R
    have ho' := ho
    cases d <;> simp only [OwnAt] at ho
    rename_i ds
    obtain ⟨vs, hH, hr⟩ := ho
    subst e
    have sW : Sub w'.W (upd w'.W p (.lst vs)) := fun a u q => by rw [upd_ne (ne_of_none q hw)]; exact q
    have wn : ∀ a u, upd w'.W p (.lst vs) a = some u → w'.W a = some u ∨ (a = p ∧ u = .lst vs) := fun a u q => by
      by_cases e : a = p
      · subst e; rw [upd_same] at q; cases q; exact .inr ⟨rfl, rfl⟩
      · rw [upd_ne e] at q; exact .inl q
    have S := P.st
    refine ⟨⟨upd w'.W p (.lst vs), w'.pc⟩, ⟨⟨fun a u q => ?_, fun a q => ?_, fun i sv q => ?_, S.dist, S.old, fun a u q => ?_, S.ext.trans sW, S.pce, S.len⟩, P.ext.trans sW, P.pc, P.frm, fun a u q => ?_, P.own⟩, ?_⟩
    · rcases wn a u q with h | ⟨rfl, rfl⟩
      · exact S.sub a u h
      · exact hH
    · obtain ⟨h1, x, y, h2, h3, h4⟩ := S.cup a q
      refine ⟨?_, x, y, h2, h3, h4⟩
      show upd w'.W p (.lst vs) a = none
      rw [upd_ne (fun e => by rw [e] at q; exact hp q)]; exact h1
    · obtain ⟨v, h1, h2⟩ := S.sl i sv q
      refine ⟨v, h1, h2.keep sW rfl (fun a u q _ => q) fun d p' e e2 => ?_⟩
      subst e
      obtain ⟨p2, e', _, h3, _, h5⟩ := h2
      rw [e2] at e'; cases e'
      show upd w'.W p (.lst vs) p' = none
      rw [upd_ne (fun e3 => hn ⟨i, d, q, by rw [h1, e2, e3]⟩)]; exact h3
    · rcases wn a u q with h | ⟨rfl, rfl⟩
      · exact S.new a u h
      · exact .inr h0
    · rcases wn a u q with h | ⟨rfl, rfl⟩
      · exact P.new a u h
      · exact (F a rfl).elim (fun z => .inr (.inl z)) fun z => .inr (.inr z)
    · simp only [Res.d, Rep]
      exact ⟨p, vs, rfl, upd_same, RepAll.mono sW ds hr⟩
end
end PL

set_option Elab.async false
set_option linter.all false
set_option maxRecDepth 100000
set_option maxHeartbeats 4000000
namespace PL
open PySem L2
/-! ### simulations -/
structure Xc (X : Cx) (C : Cc) : Prop where
  hK : X.K = C.K
  calm : X.calm = true
  nd : X.N.Nodup
  un : X.A.units + 64 < cLine
def semE (C : Cc) (φ : WE) : TE := fun σ H Q => ∃ ρ w Q', StOk C ρ w σ H ∧ φ ρ Q' ∧ ∀ r ρ' w' v H', Post C ρ w σ H ρ' w' H' → RepR C ρ' w' σ H' v r → Fre ρ σ H v r → Q' r ρ' → Q v H'
def semT (C : Cc) (φ : WT) : TT := fun σ H Q => ∃ ρ w Q', StOk C ρ w σ H ∧ φ ρ Q' ∧ ∀ b ρ' w' H', Post C ρ w σ H ρ' w' H' → Q' b ρ' → Q b H'
def semA (C : Cc) (φ : WA) : TA := fun σ H Q => ∃ ρ w Q', StOk C ρ w σ H ∧ φ ρ Q' ∧ ∀ ds ρ' w' vs H', Post C ρ w σ H ρ' w' H' → RepAll C.K w'.W ds vs → Q' ds ρ' → Q vs H'
abbrev SimE (X : Cx) (C : Cc) (e : Expr) (φ : WE) : Prop := PE X e (semE C φ)
abbrev SimT (X : Cx) (C : Cc) (e : Expr) (φ : WT) : Prop := PT X e (semT C φ)
abbrev SimA (X : Cx) (C : Cc) (es : List Expr) (φ : WA) : Prop := PA X es (semA C φ)
theorem _root_.L2.PE.imp {X : Cx} {e : Expr} {t t' : TE} (h : PE X e t) (i : ∀ σ H Q, t' σ H Q → t σ H Q) : PE X e t' := ⟨fun pins s σ H Q I q => h.run pins s σ H Q I (i σ H Q q)⟩
theorem _root_.L2.PT.imp {X : Cx} {e : Expr} {t t' : TT} (h : PT X e t) (i : ∀ σ H Q, t' σ H Q → t σ H Q) : PT X e t' := ⟨fun pins s σ H Q I q => h.run pins s σ H Q I (i σ H Q q)⟩
theorem _root_.L2.PW.imp {X : Cx} {e : Expr} {t t' : TT} (h : PW X e t) (i : ∀ σ H Q, t' σ H Q → t σ H Q) : PW X e t' := ⟨fun wh pins s σ H Q I q => h.run wh pins s σ H Q I (i σ H Q q)⟩
theorem _root_.L2.PA.imp {X : Cx} {e : List Expr} {t t' : TA} (h : PA X e t) (i : ∀ σ H Q, t' σ H Q → t σ H Q) : PA X e t' := ⟨fun p pins s σ H Q I q => h.run p pins s σ H Q I (i σ H Q q)⟩

section
variable {C : Cc} {ρ ρ' : Sl} {w w' : Wd} {σ : St} {H H' : Hp} {v x : V} {r : Res} {d : D} {ds : List D}
theorem Fre.back (st : StOk C ρ w σ H) (P : Post C ρ w σ H ρ' w' H') (F : Fre ρ' σ H' v r) : Fre ρ σ H v r := by
  cases r with
  | fr d => exact fun p e => (F p e).elim (fun z => .inl (P.back st z)) fun z => .inr (P.own p z)
  | im d => trivial
  | bo d => trivial
theorem Cont.dp (st : StOk C ρ w σ H) (h : Cont C w H x d) : Dp C.K H x d := by
  rcases h with h | ⟨p, rfl, _, h⟩
  · exact Rep.dp st.sub d h
  · cases d <;> simp only [OwnAt] at h
    obtain ⟨vs, e, r⟩ := h
    exact .lst (SqL.of e) (RepAll.dp st.sub _ r)
theorem Cont.int {i : Int} (h : Cont C w H x (.int i)) : x = .int i := by
  rcases h with h | ⟨p, _, _, h⟩
  · simpa [Rep] using h
  · simp only [OwnAt] at h
theorem Cont.bool {i : Bool} (h : Cont C w H x (.bool i)) : x = .bl i := by
  rcases h with h | ⟨p, _, _, h⟩
  · simpa [Rep] using h
  · simp only [OwnAt] at h
theorem Cont.str {i : Str} (h : Cont C w H x (.str i)) : x = .str i := by
  rcases h with h | ⟨p, _, _, h⟩
  · simpa [Rep] using h
  · simp only [OwnAt] at h
theorem Cont.none (h : Cont C w H x .none) : x = .non := by
  rcases h with h | ⟨p, _, _, h⟩
  · simpa [Rep] using h
  · simp only [OwnAt] at h
theorem Cont.list (st : StOk C ρ w σ H) (h : Cont C w H x (.list ds)) : ∃ a vs, x = .ref a ∧ H a = some (.lst vs) ∧ RepAll C.K w.W ds vs := by
  rcases h with h | ⟨p, rfl, _, h⟩
  · simp only [Rep] at h
    obtain ⟨a, vs, e, q, r⟩ := h
    exact ⟨a, vs, e, st.sub _ _ q, r⟩
  · simp only [OwnAt] at h
    obtain ⟨vs, e, r⟩ := h
    exact ⟨p, vs, rfl, e, r⟩
theorem Cont.tuple (st : StOk C ρ w σ H) (h : Cont C w H x (.tuple ds)) : ∃ a vs, x = .ref a ∧ SqT C.K H a vs ∧ RepAll C.K w.W ds vs ∧ Rep C.K w.W (.tuple ds) x := by
  rcases h with h | ⟨p, rfl, _, h⟩
  · have h' := h
    simp only [Rep] at h
    obtain ⟨a, vs, e, q, r⟩ := h
    exact ⟨a, vs, e, st.sub.sqT q, r, h'⟩
  · simp only [OwnAt] at h
end

/-! ### names and constants -/
def wVar (i : Nat) : WE := fun ρ Q => match ρ[i]? with | some (some (.val d)) => Q (.im d) ρ | some (some (.own d)) => Q (.bo d) ρ | _ => False
def wMv (i : Nat) : WE := fun ρ Q => match ρ[i]? with | some (some (.val d)) => Q (.im d) ρ | some (some (.own d)) => Q (.fr d) (ρ.set i none) | _ => False
def wFz (i : Nat) : WE := fun ρ Q => match ρ[i]? with | some (some (.val d)) => Q (.im d) ρ | some (some (.own d)) => Q (.im d) (ρ.set i (some (.val d))) | _ => False
def wC (d : D) : WE := fun ρ Q => Q (.im d) ρ
section
variable {X : Cx} {C : Cc} {pos : Pos} {ρ : Sl} {w : Wd} {σ : St} {H : Hp}
theorem s_var (i : Nat) {x : Str} (hN : X.N[i]? = some x := by rfl) (hv : Vis X.env.scope x := by first | exact Or.inl rfl | exact Or.inr (Or.inl rfl) | exact Or.inr (Or.inr rfl)) (hd : (x == ("__debug__" : Str)) = false := by decide)
    (hcd : (x == ("__classdict__" : Str)) = false := by decide) : SimE X C (.Name x pos) (wVar i) :=
  (pe_var hN hv hd hcd).imp fun σ H Q ⟨ρ, w, Q', st, h, k⟩ => by
    unfold wVar at h
    split at h
    · rename_i d e
      obtain ⟨v, h1, h2⟩ := st.sl i _ e
      exact ⟨v, h1, k (.im d) ρ w v H (Post.refl st) h2 trivial h⟩
    · rename_i d e
      obtain ⟨v, h1, p, h2, _, _, h3, h4⟩ := st.sl i _ e
      exact ⟨v, h1, k (.bo d) ρ w v H (Post.refl st) ⟨p, h2, h3, h4⟩ trivial h⟩
    · exact h.elim
theorem set_own {ρ : Sl} {σ : St} {i : Nat} {o : Option SV} {a : Addr} (ho : ∀ d, o ≠ some (SV.own d)) (h : OwnSl (ρ.set i o) σ a) : OwnSl ρ σ a ∧ ∃ j d, j ≠ i ∧ ρ[j]? = some (some (SV.own d)) ∧ σ[j]? = some (some (.ref a)) := by
  obtain ⟨j, d, h1, h2⟩ := h
  by_cases e : i = j
  · subst e
    by_cases hl : i < ρ.length
    · rw [List.getElem?_set_self hl] at h1
      exact absurd (Option.some.inj h1) (ho d)
    · rw [List.getElem?_eq_none (by simpa using hl)] at h1; cases h1
  · rw [List.getElem?_set_ne e] at h1
    exact ⟨⟨j, d, h1, h2⟩, j, d, Ne.symm e, h1, h2⟩
theorem StOk.drop (st : StOk C ρ w σ H) {i : Nat} {o : Option SV} (ho : ∀ sv, o = some sv → ∃ v, σ[i]? = some (some v) ∧ SvOk C w H v sv) (hn : ∀ d, o ≠ some (.own d)) : StOk C (ρ.set i o) w σ H := by
  refine ⟨st.sub, st.cup, fun j sv q => ?_, fun j l d e p q1 q2 h1 h2 => ?_, st.old, st.new, st.ext, st.pce, by rw [List.length_set]; exact st.len⟩
  · by_cases e : i = j
    · subst e
      by_cases hl : i < ρ.length
      · rw [List.getElem?_set_self hl] at q
        exact ho sv (Option.some.inj q)
      · rw [List.getElem?_eq_none (by simpa using hl)] at q; cases q
    · rw [List.getElem?_set_ne e] at q
      exact st.sl j sv q
  · have back : ∀ (j : Nat) (d : D), (ρ.set i o)[j]? = some (some (SV.own d)) → ρ[j]? = some (some (SV.own d)) := fun j d q => by
      by_cases e : i = j
      · subst e
        by_cases hl : i < ρ.length
        · rw [List.getElem?_set_self hl] at q
          exact absurd (Option.some.inj q) (hn d)
        · rw [List.getElem?_eq_none (by simpa using hl)] at q; cases q
      · rw [List.getElem?_set_ne e] at q; exact q
    exact st.dist j l d e p (back j d q1) (back l e q2) h1 h2
theorem s_mv (i : Nat) {x : Str} (hN : X.N[i]? = some x := by rfl) (hv : Vis X.env.scope x := by first | exact Or.inl rfl | exact Or.inr (Or.inl rfl) | exact Or.inr (Or.inr rfl)) (hd : (x == ("__debug__" : Str)) = false := by decide)
    (hcd : (x == ("__classdict__" : Str)) = false := by decide) : SimE X C (.Name x pos) (wMv i) :=
  (pe_var hN hv hd hcd).imp fun σ H Q ⟨ρ, w, Q', st, h, k⟩ => by
    unfold wMv at h
    split at h
    · rename_i d e
      obtain ⟨v, h1, h2⟩ := st.sl i _ e
      exact ⟨v, h1, k (.im d) ρ w v H (Post.refl st) h2 trivial h⟩
    · rename_i d e
      obtain ⟨v, h1, p, h2, h3, h4, h5, h6⟩ := st.sl i _ e
      subst h2
      have st' := st.drop (i := i) (o := none) (by intro _ q; cases q) (by intro _ q; cases q)
      refine ⟨_, h1, k (.fr d) _ w _ H ⟨st', Sub.refl _, rfl, fun _ _ h _ => h, fun _ _ h => .inl h, fun a h => ?_⟩ ⟨p, rfl, h3, h4, h5, fun h => ?_, h6⟩ (fun q eq => ?_) h⟩
      · exact (set_own (by intro _ q; cases q) h).1
      · obtain ⟨_, j, d', hj, q1, q2⟩ := set_own (by intro _ q; cases q) h
        exact hj (st.dist j i d' d p q1 e q2 h1)
      · cases eq; exact .inr ⟨i, d, e, h1⟩
    · exact h.elim
/-- a slot's object comes to stay -/
theorem StOk.freeze (st : StOk C ρ w σ H) {i : Nat} {d : D} (e : ρ[i]? = some (some (.own d))) : ∃ w' v, σ[i]? = some (some v) ∧ Post C ρ w σ H (ρ.set i (some (.val d))) w' H ∧ Rep C.K w'.W d v := by
  obtain ⟨v, h1, p, h2, h3, h4, h5, h6⟩ := st.sl i _ e
  subst h2
  have st1 := st.drop (i := i) (o := none) (by intro _ q; cases q) (by intro _ q; cases q)
  have P1 : Post C ρ w σ H (ρ.set i none) w H := ⟨st1, Sub.refl _, rfl, fun _ _ h _ => h, fun _ _ h => .inl h, fun a h => (set_own (by intro _ q; cases q) h).1⟩
  have R : RepR C (ρ.set i none) w σ H (.ref p) (.fr d) := ⟨p, rfl, h3, h4, h5, fun h => by
    obtain ⟨_, j, d', hj, q1, q2⟩ := set_own (by intro _ q; cases q) h
    exact hj (st.dist j i d' d p q1 e q2 h1), h6⟩
  obtain ⟨w', P, hr⟩ := P1.cap st R (fun q eq => by cases eq; exact .inr ⟨i, d, e, h1⟩) (by intro _ q; cases q)
  refine ⟨w', _, h1, ⟨?_, P.ext, P.pc, P.frm, P.new, fun a h => ?_⟩, hr⟩
  · have := P.st.drop (i := i) (o := some (.val d)) (fun sv q => by cases q; exact ⟨_, h1, hr⟩) (by intro _ q; cases q)
    rwa [List.set_set] at this
  · exact (set_own (by intro _ q; cases q) h).1
theorem s_fz (i : Nat) {x : Str} (hN : X.N[i]? = some x := by rfl) (hv : Vis X.env.scope x := by first | exact Or.inl rfl | exact Or.inr (Or.inl rfl) | exact Or.inr (Or.inr rfl)) (hd : (x == ("__debug__" : Str)) = false := by decide)
    (hcd : (x == ("__classdict__" : Str)) = false := by decide) : SimE X C (.Name x pos) (wFz i) :=
  (pe_var hN hv hd hcd).imp fun σ H Q ⟨ρ, w, Q', st, h, k⟩ => by
    unfold wFz at h
    split at h
    · rename_i d e
      obtain ⟨v, h1, h2⟩ := st.sl i _ e
      exact ⟨v, h1, k (.im d) ρ w v H (Post.refl st) h2 trivial h⟩
    · rename_i d e
      obtain ⟨w', v, h1, P, hr⟩ := st.freeze e
      exact ⟨v, h1, k (.im d) _ w' v H P hr trivial h⟩
    · exact h.elim
theorem s_cst {e : Expr} {d : D} {v : V} (h : PE X e (tC v)) (hr : ∀ W, Rep C.K W d v) : SimE X C e (wC d) :=
  h.imp fun σ H Q ⟨ρ, w, Q', st, h, k⟩ => k (.im d) ρ w v H (Post.refl st) (hr _) trivial h
theorem s_int {i j pos} : SimE X C (.Constant (.int i) j pos) (wC (.int i)) := s_cst pe_int fun _ => by simp only [Rep]
theorem s_bl {b j pos} : SimE X C (.Constant (.bool b) j pos) (wC (.bool b)) := s_cst pe_bl fun _ => by simp only [Rep]
theorem s_non {j pos} : SimE X C (.Constant .none j pos) (wC .none) := s_cst pe_non fun _ => by simp only [Rep]
theorem s_str {x j pos} : SimE X C (.Constant (.str x) j pos) (wC (.str x)) := s_cst pe_str fun _ => by simp only [Rep]
/-- a module's int -/
theorem s_gint {x : Str} {i : Int} {t : Tok} (hg : Gl X x) (hm : X.mg x = some (.int i t)) (hd : (x == ("__debug__" : Str)) = false := by decide) : SimE X C (.Name x pos) (wC (.int i)) :=
  s_cst (v := .int i) (pe_glob hg hm ⟨t, rfl⟩ hd) fun _ => by simp only [Rep]
end

section
variable {C : Cc} {ρ : Sl} {w : Wd} {σ : St} {H : Hp}
theorem rr_int {i : Int} : RepR C ρ w σ H (.int i) (.im (.int i)) := by show Rep _ _ _ _; simp only [Rep]
theorem rr_bl {i : Bool} : RepR C ρ w σ H (.bl i) (.im (.bool i)) := by show Rep _ _ _ _; simp only [Rep]
end
/-! ### two-place operations -/
def wBin (f : D → D → (Res → Prop) → Prop) (a b : WE) : WE := fun ρ Q => a ρ fun r1 ρ1 => b ρ1 fun r2 ρ2 => f r1.d r2.d fun r => Q r ρ2
def wUn (f : D → (Res → Prop) → Prop) (a : WE) : WE := fun ρ Q => a ρ fun r1 ρ1 => f r1.d fun r => Q r ρ1
/-- a value as a test -/
def wT (a : WE) : WT := fun ρ Q => a ρ fun r ρ' => ∃ b, r.d = .bool b ∧ Q b ρ'
def OpSnd (C : Cc) (f : D → D → (Res → Prop) → Prop) (r : R2) : Prop := ∀ ρ w σ H x y d1 d2 (k : Res → Prop) (Q : VK), StOk C ρ w σ H → Cont C w H x d1 → Cont C w H y d2 → f d1 d2 k →
  (∀ res w' v H', Post C ρ w σ H ρ w' H' → RepR C ρ w' σ H' v res → Fre ρ σ H v res → k res → Q v H') → r x y H Q
def UnSnd (C : Cc) (f : D → (Res → Prop) → Prop) (r : V → Hp → VK → Prop) : Prop := ∀ ρ w σ H x d1 (k : Res → Prop) (Q : VK), StOk C ρ w σ H → Cont C w H x d1 → f d1 k →
  (∀ res w' v H', Post C ρ w σ H ρ w' H' → RepR C ρ w' σ H' v res → Fre ρ σ H v res → k res → Q v H') → r x H Q
section
variable {X : Cx} {C : Cc} {pos : Pos} {a b : Expr} {φa φb : WE} {f : D → D → (Res → Prop) → Prop} {r : R2}
theorem sem_bin (hs : OpSnd C f r) {σ : St} {H : Hp} {Q : VK} (h : semE C (wBin f φa φb) σ H Q) : tOp r (semE C φa) (semE C φb) σ H Q := by
  obtain ⟨ρ, w, Q', st, h, k⟩ := h
  refine ⟨ρ, w, _, st, h, fun r1 ρ1 w1 x H1 P1 R1 F1 h1 => ⟨ρ1, w1, _, P1.st, h1, fun r2 ρ2 w2 y H2 P2 R2 F2 h2 => ?_⟩⟩
  refine hs ρ2 w2 σ H2 x y _ _ _ Q P2.st (R1.cont.post P2) R2.cont h2 fun res w' v H' P3 R3 F3 q => ?_
  exact k res ρ2 w' v H' (P1.trans st (P2.trans P1.st P3)) R3 ((F3.back P1.st P2).back st P1) q
theorem s_bin {op : Operator} (ho : OpR X (binaryOp op) r) (hs : OpSnd C f r) (ha : SimE X C a φa) (hb : SimE X C b φb) : SimE X C (.BinOp a op b pos) (wBin f φa φb) :=
  (pe_op ho ha hb).imp fun _ _ _ h => sem_bin hs h
theorem s_cmp {op : CmpOp} (ho : OpR X (compareOp op) r) (hs : OpSnd C f r) (ha : SimE X C a φa) (hb : SimE X C b φb) (hm : behindInMarks op b = false) : SimE X C (.Compare a [op] [b] pos) (wBin f φa φb) :=
  (pe_cmpR ho ha hb hm).imp fun _ _ _ h => sem_bin hs h
theorem sem_test {φ : WE} {σ : St} {H : Hp} {Q : Bool → Hp → Prop} (h : semT C (wT φ) σ H Q) : semE C φ σ H fun x H' => ∃ k, x = .bl k ∧ Q k H' := by
  obtain ⟨ρ, w, Q', st, h, k⟩ := h
  refine ⟨ρ, w, _, st, h, fun r ρ' w' v H' P R F ⟨b, hb, q⟩ => ?_⟩
  have R' := R.cont
  rw [hb] at R'
  exact ⟨b, R'.bool, k b ρ' w' H' P q⟩
theorem t_cmp {op : CmpOp} (ho : OpR X (compareOp op) r) (hs : OpSnd C f r) (ha : SimE X C a φa) (hb : SimE X C b φb) (hm : behindInMarks op b = false) : SimT X C (.Compare a [op] [b] pos) (wT (wBin f φa φb)) :=
  (pt_cmpR ho ha hb hm).imp fun σ H Q h => sem_bin hs (sem_test h)
theorem t_val {e : Expr} {φ : WE} (h : SimE X C e φ) (he : ∀ whole, isTrue e X.env whole = (do let v ← whole; standAt e.pos; holding [v] (truthy v)) := by intro _; rfl) : SimT X C e (wT φ) :=
  (pt_val h he).imp fun σ H Q h => sem_test h
theorem s_un {op : UnaryOp} {f : D → (Res → Prop) → Prop} {r : V → Hp → VK → Prop} (ho : UnR X (unaryOp op) r) (hs : UnSnd C f r) (ha : SimE X C a φa) : SimE X C (.UnaryOp op a pos) (wUn f φa) :=
  (pe_un ho ha).imp fun σ H Q ⟨ρ, w, Q', st, h, k⟩ => by
    refine ⟨ρ, w, _, st, h, fun r1 ρ1 w1 x H1 P1 R1 F1 h1 => ?_⟩
    refine hs ρ1 w1 σ H1 x _ _ Q P1.st R1.cont h1 fun res w' v H' P3 R3 F3 q => ?_
    exact k res ρ1 w' v H' (P1.trans st P3) R3 (F3.back st P1) q
end

/-! ### the operations -/
def kI (i : Int) (k : Res → Prop) : Prop := k (.im (.int i))
def kB (b : Bool) (k : Res → Prop) : Prop := k (.im (.bool b))
def opAdd : D → D → (Res → Prop) → Prop
  | .int i, .int j, k => k (.im (.int (i + j)))
  | .list xs, .list ys, k => xs.length + ys.length ≤ 16777216 ∧ k (.fr (.list (xs ++ ys)))
  | .tuple xs, .tuple ys, k => xs.length + ys.length ≤ 16777216 ∧ k (.im (.tuple (xs ++ ys)))
  | _, _, _ => False
def opSub : D → D → (Res → Prop) → Prop
  | .int i, .int j, k => k (.im (.int (i - j)))
  | _, _, _ => False
/-- one factor below 2 ^ 64 -/
def Sm (i : Int) : Prop := -(2 ^ 64) < i ∧ i < 2 ^ 64
def opMul : D → D → (Res → Prop) → Prop
  | .int i, .int j, k => (Sm i ∨ Sm j) ∧ k (.im (.int (i * j)))
  | .list xs, .int j, k => j ≤ 16777216 ∧ -(2 ^ 63) ≤ j ∧ xs.length * j.toNat ≤ 16777216 ∧ k (.fr (.list (List.replicate j.toNat xs).flatten))
  | _, _, _ => False
def opDiv : D → D → (Res → Prop) → Prop
  | .int i, .int j, k => 0 < j ∧ j < 2 ^ 8000 ∧ k (.im (.int (i / j)))
  | _, _, _ => False
def opMod : D → D → (Res → Prop) → Prop
  | .int i, .int j, k => 0 < j ∧ k (.im (.int (i % j)))
  | _, _, _ => False
def opPow : D → D → (Res → Prop) → Prop
  | .int i, .int j, k => (0 ≤ j ∧ j ≤ 1000000 ∧ Sm i) ∧ k (.im (.int (i ^ j.toNat)))
  | _, _, _ => False
def opNeg : D → (Res → Prop) → Prop
  | .int i, k => k (.im (.int (-i)))
  | _, _ => False
def opLt : D → D → (Res → Prop) → Prop
  | .int i, .int j, k => k (.im (.bool (decide (i < j))))
  | _, _, _ => False
def opLe : D → D → (Res → Prop) → Prop
  | .int i, .int j, k => k (.im (.bool (decide (i ≤ j))))
  | _, _, _ => False
def opGt : D → D → (Res → Prop) → Prop
  | .int i, .int j, k => k (.im (.bool (decide (j < i))))
  | _, _, _ => False
def opGe : D → D → (Res → Prop) → Prop
  | .int i, .int j, k => k (.im (.bool (decide (j ≤ i))))
  | _, _, _ => False
abbrev okD (d : D) : Prop := SeqAt.shaped d = true
def opEq : D → D → (Res → Prop) → Prop := fun d e k => okD d ∧ okD e ∧ k (.im (.bool (PyData.eqv d e)))
def opNe : D → D → (Res → Prop) → Prop := fun d e k => okD d ∧ okD e ∧ k (.im (.bool (!PyData.eqv d e)))
def isN : D → Bool
  | .none => true
  | _ => false
def opIsN : D → D → (Res → Prop) → Prop
  | d, .none, k => k (.im (.bool (isN d)))
  | _, _, _ => False
def opNotN : D → D → (Res → Prop) → Prop
  | d, .none, k => k (.im (.bool (!isN d)))
  | _, _, _ => False
def opIsB : D → D → (Res → Prop) → Prop
  | .bool a, .bool b, k => k (.im (.bool (decide (a = b))))
  | _, _, _ => False
def opNotB : D → D → (Res → Prop) → Prop
  | .bool a, .bool b, k => k (.im (.bool (!decide (a = b))))
  | _, _, _ => False
def flatD : D → Bool
  | .none => true | .bool _ => true | .int _ => true | .str _ => true | _ => false
def inD (x : D) (xs : List D) : Bool := xs.any fun y => PyData.eqv y x
def opIn (neg : Bool) : D → D → (Res → Prop) → Prop
  | x, .list ds, k => flatD x = true ∧ ds.all flatD = true ∧ k (.im (.bool (if neg then !inD x ds else inD x ds)))
  | x, .tuple ds, k => flatD x = true ∧ ds.all flatD = true ∧ k (.im (.bool (if neg then !inD x ds else inD x ds)))
  | _, _, _ => False
def opIx : D → D → (Res → Prop) → Prop
  | .list ds, .int i, k => ∃ d, atI ds i = some d ∧ k (.im d)
  | .tuple ds, .int i, k => ∃ d, atI ds i = some d ∧ k (.im d)
  | _, _, _ => False
section
variable {X : Cx} {C : Cc}
theorem sl16 : (sizeLine : Nat) = 16777216 := sizeLine_eq
/-- ints alone -/
theorem snd_II {f : D → D → (Res → Prop) → Prop} {Cn : Int → Int → Prop} {g : Int → Int → Int} (hf : ∀ d e k, f d e k → ∃ i j, d = .int i ∧ e = .int j ∧ Cn i j ∧ k (.im (.int (g i j)))) : OpSnd C f (rI Cn fun i j => .int (g i j)) := by
  intro ρ w σ H x y d1 d2 k Q st c1 c2 h q
  obtain ⟨i, j, rfl, rfl, hc, h⟩ := hf _ _ _ h
  exact ⟨i, j, c1.int, c2.int, hc, q (.im (.int _)) w _ H (Post.refl st) rr_int trivial h⟩
theorem snd_IB {f : D → D → (Res → Prop) → Prop} {g : Int → Int → Bool} (hf : ∀ d e k, f d e k → ∃ i j, d = .int i ∧ e = .int j ∧ k (.im (.bool (g i j)))) : OpSnd C f (rI0 fun i j => .bl (g i j)) := by
  intro ρ w σ H x y d1 d2 k Q st c1 c2 h q
  obtain ⟨i, j, rfl, rfl, h'⟩ := hf _ _ _ h
  exact ⟨i, j, c1.int, c2.int, q (.im (.bool _)) w _ H (Post.refl st) rr_bl trivial h'⟩
theorem OpR.or {f : Value → Value → Sem Value} {r r' : R2} (h : OpR X f r) (h' : OpR X f r') : OpR X f (fun x y H Q => r x y H Q ∨ r' x y H Q) := by
  intro pins s σ H x y v u Q I rx ry q
  rcases q with q | q
  · exact h pins s σ H x y v u Q I rx ry q
  · exact h' pins s σ H x y v u Q I rx ry q
abbrev rAdd3 (K : PySem.W.Frag) : R2 := fun x y H Q => rI0 (fun i j => .int (i + j)) x y H Q ∨ (rCat x y H Q ∨ rCatA K x y H Q)
theorem or_add : OpR X (binaryOp .Add) (rAdd3 X.K) := OpR.or op_add (OpR.or op_cat op_catA)
theorem snd_add : OpSnd C opAdd (rAdd3 C.K) := by
  intro ρ w σ H x y d1 d2 k Q st c1 c2 h q
  unfold opAdd at h
  split at h
  · exact .inl ⟨_, _, c1.int, c2.int, q (.im (.int _)) w _ H (Post.refl st) rr_int trivial h⟩
  · rename_i xs ys
    obtain ⟨a, vs, rfl, h1, r1⟩ := c1.list st
    obtain ⟨b, us, rfl, h2, r2⟩ := c2.list st
    refine .inr (.inl ⟨a, b, vs, us, rfl, rfl, h1, h2, by rw [r1.length, r2.length, sl16]; exact h.1, fun p hp => ?_⟩)
    obtain ⟨P, R, F⟩ := st.newL hp (r1.append r2)
    exact q _ w _ _ P R F h.2
  · rename_i xs ys
    obtain ⟨a, vs, rfl, h1, r1, e1⟩ := c1.tuple st
    obtain ⟨b, us, rfl, h2, r2, e2⟩ := c2.tuple st
    refine .inr (.inr ⟨a, b, vs, us, rfl, rfl, h1, h2, by rw [r1.length, r2.length, sl16]; exact h.1, fun z => ?_, fun _ z => ?_, fun _ _ p hp => ?_⟩)
    · have : xs = [] := by
        have := r1.length; rw [z] at this; exact List.eq_nil_of_length_eq_zero this.symm
      subst this
      exact q (.im (.tuple ys)) w _ H (Post.refl st) e2 trivial h.2
    · have : ys = [] := by
        have := r2.length; rw [z] at this; exact List.eq_nil_of_length_eq_zero this.symm
      subst this
      have h2 := h.2
      rw [List.append_nil] at h2
      exact q (.im (.tuple xs)) w _ H (Post.refl st) e1 trivial h2
    · obtain ⟨P, R⟩ := st.newT hp (r1.append r2)
      exact q _ _ _ _ P R trivial h.2
  · exact h.elim
theorem or_sub : OpR X (binaryOp .Sub) (rI (fun _ _ => True) fun i j => .int (i - j)) := by
  intro pins s σ H x y v u Q I rx ry ⟨i, j, h1, h2, _, q⟩
  exact op_sub pins s σ H x y v u Q I rx ry ⟨i, j, h1, h2, q⟩
theorem snd_sub : OpSnd C opSub (rI (fun _ _ => True) fun i j => .int (i - j)) := snd_II fun d e k h => by
  unfold opSub at h; split at h
  · exact ⟨_, _, rfl, rfl, trivial, h⟩
  · exact h.elim
abbrev rMul2 : R2 := fun x y H Q => rI CMul (fun i j => .int (i * j)) x y H Q ∨ rRep x y H Q
theorem or_mul : OpR X (binaryOp .Mult) rMul2 := OpR.or op_mul op_rep
theorem snd_mul : OpSnd C opMul rMul2 := by
  intro ρ w σ H x y d1 d2 k Q st c1 c2 h q
  unfold opMul at h
  split at h
  · exact .inl ⟨_, _, c1.int, c2.int, h.1, q (.im (.int _)) w _ H (Post.refl st) rr_int trivial h.2⟩
  · rename_i xs j
    obtain ⟨a, vs, rfl, h1, r1⟩ := c1.list st
    refine .inr ⟨a, j, vs, rfl, c2.int, h1, h.2.1, by omega, by rw [r1.length, sl16]; exact h.2.2.1, fun p hp => ?_⟩
    obtain ⟨P, R, F⟩ := st.newL hp (r1.rep j.toNat)
    exact q _ w _ _ P R F h.2.2.2
  · exact h.elim
theorem or_div : OpR X (binaryOp .FloorDiv) (rI (fun _ j => 0 < j ∧ j < 2 ^ 8000) fun i j => .int (i / j)) := opI fun i j _ _ _ _ _ hc q => by
  have h1 : (0 : Int) < j := hc.1
  have h2 : j < 2 ^ 8000 := hc.2
  have h3 : j.natAbs < 2 ^ 8000 := by
    have e : ((2 ^ 8000 : Nat) : Int) = (2 : Int) ^ 8000 := Int.natCast_pow 2 8000
    rw [← e] at h2
    omega
  have h4 : j.natAbs.log2 < 9000 := Nat.lt_trans (PySem.Flt.log2_lt_of (by decide) h3) (by decide)
  exact PyProof.Rows.floordiv_int (by omega) (by rw [Int.fdiv_eq_ediv_of_nonneg i (by omega)]; exact q) (.inl (PyProof.noPylong_of_log2 h4))
theorem snd_div : OpSnd C opDiv (rI (fun _ j => 0 < j ∧ j < 2 ^ 8000) fun i j => .int (i / j)) := snd_II fun d e k h => by
  unfold opDiv at h; split at h
  · exact ⟨_, _, rfl, rfl, ⟨h.1, h.2.1⟩, h.2.2⟩
  · exact h.elim
theorem snd_mod : OpSnd C opMod (rI (fun _ j => 0 < j) fun i j => .int (i % j)) := snd_II fun d e k h => by
  unfold opMod at h; split at h
  · exact ⟨_, _, rfl, rfl, h.1, h.2⟩
  · exact h.elim
theorem snd_pow : OpSnd C opPow (rI CPow fun i j => .int (i ^ j.toNat)) := snd_II fun d e k h => by
  unfold opPow at h; split at h
  · rename_i i j
    obtain ⟨⟨h1, h2, h3, h4⟩, h5⟩ := h
    exact ⟨_, _, rfl, rfl, ⟨h1, h2, by omega⟩, h5⟩
  · exact h.elim
theorem snd_neg : UnSnd C opNeg (rU fun i => .int (-i)) := by
  intro ρ w σ H x d1 k Q st c1 h q
  unfold opNeg at h; split at h
  · exact ⟨_, c1.int, q (.im (.int _)) w _ H (Post.refl st) rr_int trivial h⟩
  · exact h.elim
theorem snd_lt : OpSnd C opLt (rI0 fun i j => .bl (decide (i < j))) := snd_IB fun d e k h => by
  unfold opLt at h; split at h
  · exact ⟨_, _, rfl, rfl, h⟩
  · exact h.elim
theorem snd_le : OpSnd C opLe (rI0 fun i j => .bl (decide (i ≤ j))) := snd_IB fun d e k h => by
  unfold opLe at h; split at h
  · exact ⟨_, _, rfl, rfl, h⟩
  · exact h.elim
theorem snd_gt : OpSnd C opGt (rI0 fun i j => .bl (decide (j < i))) := snd_IB fun d e k h => by
  unfold opGt at h; split at h
  · exact ⟨_, _, rfl, rfl, h⟩
  · exact h.elim
theorem snd_ge : OpSnd C opGe (rI0 fun i j => .bl (decide (j ≤ i))) := snd_IB fun d e k h => by
  unfold opGe at h; split at h
  · exact ⟨_, _, rfl, rfl, h⟩
  · exact h.elim
theorem snd_eq : OpSnd C opEq (rEqD C.K) := by
  intro ρ w σ H x y d1 d2 k Q st c1 c2 h q
  exact ⟨d1, d2, c1.dp st, c2.dp st, h.1, h.2.1, q (.im (.bool _)) w _ H (Post.refl st) rr_bl trivial h.2.2⟩
theorem snd_ne : OpSnd C opNe (rNeD C.K) := by
  intro ρ w σ H x y d1 d2 k Q st c1 c2 h q
  exact ⟨d1, d2, c1.dp st, c2.dp st, h.1, h.2.1, q (.im (.bool _)) w _ H (Post.refl st) rr_bl trivial h.2.2⟩
theorem Cont.isN {w : Wd} {H : Hp} {x : V} {d : D} (h : Cont C w H x d) : decide (x = .non) = isN d := by
  cases d with
  | none => rw [h.none]; rfl
  | bool b => rw [h.bool]; rfl
  | int b => rw [h.int]; rfl
  | str b => rw [h.str]; rfl
  | list ds =>
    rcases h with h | ⟨p, rfl, _⟩
    · simp only [Rep] at h; obtain ⟨a, vs, rfl, _⟩ := h; rfl
    · rfl
  | tuple ds =>
    rcases h with h | ⟨p, rfl, _⟩
    · simp only [Rep] at h; obtain ⟨a, vs, rfl, _⟩ := h; rfl
    · rfl
  | dict ds =>
    rcases h with h | ⟨p, rfl, _⟩
    · simp only [Rep] at h
    · rfl
theorem snd_isN : OpSnd C opIsN (fun x y H Q => y = .non ∧ Q (.bl (decide (x = .non))) H) := by
  intro ρ w σ H x y d1 d2 k Q st c1 c2 h q
  unfold opIsN at h; split at h
  · exact ⟨c2.none, by rw [c1.isN]; exact q (.im (.bool _)) w _ H (Post.refl st) rr_bl trivial h⟩
  · exact h.elim
theorem snd_notN : OpSnd C opNotN (fun x y H Q => y = .non ∧ Q (.bl (!decide (x = .non))) H) := by
  intro ρ w σ H x y d1 d2 k Q st c1 c2 h q
  unfold opNotN at h; split at h
  · exact ⟨c2.none, by rw [c1.isN]; exact q (.im (.bool _)) w _ H (Post.refl st) rr_bl trivial h⟩
  · exact h.elim
theorem snd_isB : OpSnd C opIsB (fun x y H Q => ∃ a b, x = .bl a ∧ y = .bl b ∧ Q (.bl (decide (a = b))) H) := by
  intro ρ w σ H x y d1 d2 k Q st c1 c2 h q
  unfold opIsB at h; split at h
  · exact ⟨_, _, c1.bool, c2.bool, q (.im (.bool _)) w _ H (Post.refl st) rr_bl trivial h⟩
  · exact h.elim
theorem snd_notB : OpSnd C opNotB (fun x y H Q => ∃ a b, x = .bl a ∧ y = .bl b ∧ Q (.bl (!decide (a = b))) H) := by
  intro ρ w σ H x y d1 d2 k Q st c1 c2 h q
  unfold opNotB at h; split at h
  · exact ⟨_, _, c1.bool, c2.bool, q (.im (.bool _)) w _ H (Post.refl st) rr_bl trivial h⟩
  · exact h.elim
theorem flat_of {w : Wd} {H : Hp} {x : V} {d : D} (h : Cont C w H x d) (f : flatD d = true) : flatV x = true ∧ Rep C.K w.W d x := by
  rcases h with h | ⟨p, rfl, _, h⟩
  · cases d <;> simp only [Rep] at h <;> first | (subst h; exact ⟨rfl, by simp only [Rep]⟩) | (simp [flatD] at f)
  · cases d <;> simp only [OwnAt] at h <;> simp [flatD] at f
theorem eqV_of {K : PySem.W.Frag} {W : Hp} {x y : V} {d e : D} (hx : Rep K W d x) (hy : Rep K W e y) (fd : flatD d = true) (fe : flatD e = true) : eqV x y = PyData.eqv d e := by
  cases d <;> simp only [Rep] at hx <;> first | subst hx | (simp [flatD] at fd; done) | skip
  all_goals (cases e <;> simp only [Rep] at hy <;> first | subst hy | (simp [flatD] at fe; done) | skip)
  all_goals first | (simp [flatD] at fe; done) | (simp [flatD] at fd; done) | (simp [eqV, PyData.eqv])
theorem inV_of {K : PySem.W.Frag} {W : Hp} {x : V} {d : D} (hx : Rep K W d x) (fd : flatD d = true) : ∀ {ds : List D} {vs : List V}, RepAll K W ds vs → ds.all flatD = true → inV x vs = inD d ds ∧ vs.all flatV = true
  | [], _, h, _ => by simp only [RepAll] at h; subst h; exact ⟨rfl, rfl⟩
  | e :: ds, _, h, f => by
    simp only [RepAll] at h
    obtain ⟨v, r, rfl, q, t⟩ := h
    rw [List.all_cons, Bool.and_eq_true] at f
    obtain ⟨i1, i2⟩ := inV_of hx fd t f.2
    have fv : flatV v = true := (flat_of (C := ⟨K, W, ⟨W, none⟩⟩) (w := ⟨W, none⟩) (H := W) (.inl q) f.1).1
    refine ⟨?_, by rw [List.all_cons, fv, i2]; rfl⟩
    unfold inV inD at i1 ⊢
    rw [List.any_cons, List.any_cons, i1, eqV_of q hx f.1 fd]
theorem snd_in (neg : Bool) : OpSnd C (opIn neg) (rIn C.K neg) := by
  intro ρ w σ H x y d1 d2 k Q st c1 c2 h q
  unfold opIn at h; split at h
  · obtain ⟨a, vs, rfl, h1, r1⟩ := c2.list st
    obtain ⟨fv, hx⟩ := flat_of c1 h.1
    obtain ⟨e, fs⟩ := inV_of hx h.1 r1 h.2.1
    exact ⟨a, vs, rfl, .inl (SqL.of h1), fv, fs, by rw [e]; exact q (.im (.bool _)) w _ H (Post.refl st) rr_bl trivial h.2.2⟩
  · obtain ⟨a, vs, rfl, h1, r1, _⟩ := c2.tuple st
    obtain ⟨fv, hx⟩ := flat_of c1 h.1
    obtain ⟨e, fs⟩ := inV_of hx h.1 r1 h.2.1
    exact ⟨a, vs, rfl, .inr h1, fv, fs, by rw [e]; exact q (.im (.bool _)) w _ H (Post.refl st) rr_bl trivial h.2.2⟩
  · exact h.elim
theorem atI_rep {K : PySem.W.Frag} {W : Hp} {ds : List D} {vs : List V} {i : Int} {d : D} (r : RepAll K W ds vs) (h : atI ds i = some d) : ∃ v, atI vs i = some v ∧ Rep K W d v := by
  unfold atI at h ⊢
  rw [r.length]
  cases e : ixN ds.length i with
  | none => rw [e] at h; cases h
  | some j =>
    rw [e] at h
    obtain ⟨v, h1, h2⟩ := r.get h
    exact ⟨v, h1, h2⟩
theorem snd_ix : OpSnd C opIx (rIx C.K) := by
  intro ρ w σ H x y d1 d2 k Q st c1 c2 h q
  unfold opIx at h; split at h
  · obtain ⟨d, e, h⟩ := h
    obtain ⟨a, vs, rfl, h1, r1⟩ := c1.list st
    obtain ⟨v, e', hv⟩ := atI_rep r1 e
    exact .inl ⟨a, vs, _, v, rfl, c2.int, SqL.of h1, e', q (.im d) w _ H (Post.refl st) hv trivial h⟩
  · obtain ⟨d, e, h⟩ := h
    obtain ⟨a, vs, rfl, h1, r1, _⟩ := c1.tuple st
    obtain ⟨v, e', hv⟩ := atI_rep r1 e
    exact .inr (.inl ⟨a, vs, _, v, rfl, c2.int, h1, e', q (.im d) w _ H (Post.refl st) hv trivial h⟩)
  · exact h.elim
end
end PL

set_option Elab.async false
set_option linter.all false
set_option maxRecDepth 100000
set_option maxHeartbeats 4000000
namespace PL
open PySem L2
/-! ### chains, and, or, not, if -/
def wChain (f f' : D → D → (Res → Prop) → Prop) (a b c : WE) : WE := fun ρ Q => a ρ fun r1 ρ1 => b ρ1 fun r2 ρ2 => f r1.d r2.d fun r => ∃ k, r.d = .bool k ∧ if k = true then c ρ2 fun r3 ρ3 => f' r2.d r3.d fun r => Q r ρ3 else Q (.im (.bool false)) ρ2
def wAnd (a b : WE) : WE := fun ρ Q => a ρ fun r ρ1 => ∃ k, r.d = .bool k ∧ if k = true then b ρ1 Q else Q (.im (.bool false)) ρ1
def wOr (a b : WE) : WE := fun ρ Q => a ρ fun r ρ1 => ∃ k, r.d = .bool k ∧ if k = true then Q (.im (.bool true)) ρ1 else b ρ1 Q
def wNot (a : WE) : WE := fun ρ Q => a ρ fun r ρ1 => ∃ k, r.d = .bool k ∧ Q (.im (.bool (!k))) ρ1
def wAndT (a b : WT) : WT := fun ρ Q => a ρ fun k ρ1 => if k = true then b ρ1 Q else Q false ρ1
def wOrT (a b : WT) : WT := fun ρ Q => a ρ fun k ρ1 => if k = true then Q true ρ1 else b ρ1 Q
def wNotT (a : WT) : WT := fun ρ Q => a ρ fun k ρ1 => Q (!k) ρ1
def wIf (t : WT) (a b : WE) : WE := fun ρ Q => t ρ fun k ρ1 => if k = true then a ρ1 Q else b ρ1 Q
def tru : D → Option Bool
  | .none => some false
  | .bool b => some b
  | .int i => some (i != 0)
  | .list ds => some (!ds.isEmpty)
  | .tuple ds => some (!ds.isEmpty)
  | _ => none
def wTr (a : WE) : WT := fun ρ Q => a ρ fun r ρ' => ∃ b, tru r.d = some b ∧ Q b ρ'
abbrev SimW (X : Cx) (C : Cc) (e : Expr) (φ : WT) : Prop := PW X e (semT C φ)
section
variable {X : Cx} {C : Cc} {pos : Pos} {a b c : Expr} {φa φb φc : WE} {ta tb : WT} {rest : List Expr} {f f' : D → D → (Res → Prop) → Prop} {r r' : R2}
theorem sem_chain (hs : OpSnd C f r) (hs' : OpSnd C f' r') {σ : St} {H : Hp} {Q : VK} (h : semE C (wChain f f' φa φb φc) σ H Q) : tChain r r' (semE C φa) (semE C φb) (semE C φc) σ H Q := by
  obtain ⟨ρ, w, Q', st, h, k⟩ := h
  refine ⟨ρ, w, _, st, h, fun r1 ρ1 w1 x H1 P1 R1 F1 h1 => ⟨ρ1, w1, _, P1.st, h1, fun r2 ρ2 w2 y H2 P2 R2 F2 h2 => ?_⟩⟩
  refine hs ρ2 w2 σ H2 x y _ _ _ _ P2.st (R1.cont.post P2) R2.cont h2 fun res w' v H' P3 R3 F3 q => ?_
  obtain ⟨b, hb, q⟩ := q
  have R' := R3.cont
  rw [hb] at R'
  refine ⟨b, R'.bool, ?_⟩
  have P13 := P1.trans st (P2.trans P1.st P3)
  cases b with
  | false => exact k _ ρ2 w' _ H' P13 rr_bl trivial (by simpa using q)
  | true =>
    rw [if_pos rfl] at q ⊢
    refine ⟨ρ2, w', _, P3.st, q, fun r3 ρ3 w3 z H3 P4 R4 F4 h4 => ?_⟩
    refine hs' ρ3 w3 σ H3 y z _ _ _ Q P4.st ((R2.cont.post P3).post P4) R4.cont h4 fun res w' v H' P5 R5 F5 q => ?_
    exact k res ρ3 w' v H' (P13.trans st (P4.trans P3.st P5)) R5 ((F5.back P3.st P4).back st P13) q
theorem s_chain {op op' : CmpOp} (ho : OpR X (compareOp op) r) (ho' : OpR X (compareOp op') r') (hs : OpSnd C f r) (hs' : OpSnd C f' r') (ha : SimE X C a φa) (hb : SimE X C b φb) (hc : SimE X C c φc)
    (hm : lastMarks [op, op'] [b, c] = false := by with_unfolding_all rfl) : SimE X C (.Compare a [op, op'] [b, c] pos) (wChain f f' φa φb φc) :=
  (pe_chain ho ho' ha hb hc hm).imp fun _ _ _ h => sem_chain hs hs' h
theorem t_chain {op op' : CmpOp} (ho : OpR X (compareOp op) r) (ho' : OpR X (compareOp op') r') (hs : OpSnd C f r) (hs' : OpSnd C f' r') (ha : SimE X C a φa) (hb : SimE X C b φb) (hc : SimE X C c φc)
    (hm : lastMarks [op, op'] [b, c] = false := by with_unfolding_all rfl) : SimT X C (.Compare a [op, op'] [b, c] pos) (wT (wChain f f' φa φb φc)) :=
  (pt_chain ho ho' ha hb hc hm).imp fun _ _ _ h => sem_chain hs hs' (sem_test h)
theorem s_one {op} {φ : WE} (h : SimE X C a φ) : SimE X C (.BoolOp op [a] pos) φ := pe_one h
theorem s_and (ha : SimE X C a φa) (hb : SimE X C (.BoolOp .And (b :: rest) pos) φb) : SimE X C (.BoolOp .And (a :: b :: rest) pos) (wAnd φa φb) :=
  (pe_and ha hb).imp fun σ H Q ⟨ρ, w, Q', st, h, k⟩ => by
    refine ⟨ρ, w, _, st, h, fun r1 ρ1 w1 x H1 P1 R1 F1 ⟨b, hb, q⟩ => ?_⟩
    have R' := R1.cont
    rw [hb] at R'
    refine ⟨b, R'.bool, ?_⟩
    cases b with
    | false => exact k _ ρ1 w1 _ H1 P1 rr_bl trivial (by simpa using q)
    | true =>
      rw [if_pos rfl] at q ⊢
      exact ⟨ρ1, w1, _, P1.st, q, fun r2 ρ2 w2 y H2 P2 R2 F2 h2 => k r2 ρ2 w2 y H2 (P1.trans st P2) R2 (F2.back st P1) h2⟩
theorem s_or (ha : SimE X C a φa) (hb : SimE X C (.BoolOp .Or (b :: rest) pos) φb) : SimE X C (.BoolOp .Or (a :: b :: rest) pos) (wOr φa φb) :=
  (pe_or ha hb).imp fun σ H Q ⟨ρ, w, Q', st, h, k⟩ => by
    refine ⟨ρ, w, _, st, h, fun r1 ρ1 w1 x H1 P1 R1 F1 ⟨b, hb, q⟩ => ?_⟩
    have R' := R1.cont
    rw [hb] at R'
    refine ⟨b, R'.bool, ?_⟩
    cases b with
    | true => exact k _ ρ1 w1 _ H1 P1 rr_bl trivial (by simpa using q)
    | false =>
      rw [if_neg Bool.false_ne_true] at q ⊢
      exact ⟨ρ1, w1, _, P1.st, q, fun r2 ρ2 w2 y H2 P2 R2 F2 h2 => k r2 ρ2 w2 y H2 (P1.trans st P2) R2 (F2.back st P1) h2⟩
theorem s_not (ha : SimE X C a φa) : SimE X C (.UnaryOp .Not a pos) (wNot φa) :=
  (pe_not ha).imp fun σ H Q ⟨ρ, w, Q', st, h, k⟩ => by
    refine ⟨ρ, w, _, st, h, fun r1 ρ1 w1 x H1 P1 R1 F1 ⟨b, hb, q⟩ => ?_⟩
    have R' := R1.cont
    rw [hb] at R'
    exact ⟨b, R'.bool, k _ ρ1 w1 _ H1 P1 rr_bl trivial q⟩
theorem sem_andT {σ : St} {H : Hp} {Q : Bool → Hp → Prop} (h : semT C (wAndT ta tb) σ H Q) : tAnd (semT C ta) (semT C tb) σ H Q := by
  obtain ⟨ρ, w, Q', st, h, k⟩ := h
  refine ⟨ρ, w, _, st, h, fun b ρ1 w1 H1 P1 q => ?_⟩
  cases b with
  | false => exact k _ ρ1 w1 H1 P1 (by simpa using q)
  | true =>
    rw [if_pos rfl] at q ⊢
    exact ⟨ρ1, w1, _, P1.st, q, fun r2 ρ2 w2 H2 P2 h2 => k r2 ρ2 w2 H2 (P1.trans st P2) h2⟩
theorem sem_orT {σ : St} {H : Hp} {Q : Bool → Hp → Prop} (h : semT C (wOrT ta tb) σ H Q) : tOr (semT C ta) (semT C tb) σ H Q := by
  obtain ⟨ρ, w, Q', st, h, k⟩ := h
  refine ⟨ρ, w, _, st, h, fun b ρ1 w1 H1 P1 q => ?_⟩
  cases b with
  | true => exact k _ ρ1 w1 H1 P1 (by simpa using q)
  | false =>
    rw [if_neg Bool.false_ne_true] at q ⊢
    exact ⟨ρ1, w1, _, P1.st, q, fun r2 ρ2 w2 H2 P2 h2 => k r2 ρ2 w2 H2 (P1.trans st P2) h2⟩
theorem w_and1 (ha : SimT X C a ta) : SimW X C (.BoolOp .And [a] pos) ta := pw_and1 ha
theorem w_or1 (ha : SimT X C a ta) : SimW X C (.BoolOp .Or [a] pos) ta := pw_or1 ha
theorem w_and (ha : SimT X C a ta) (hb : SimW X C (.BoolOp .And (b :: rest) pos) tb) : SimW X C (.BoolOp .And (a :: b :: rest) pos) (wAndT ta tb) :=
  (pw_and ha hb).imp fun _ _ _ h => sem_andT h
theorem w_or (ha : SimT X C a ta) (hb : SimW X C (.BoolOp .Or (b :: rest) pos) tb) : SimW X C (.BoolOp .Or (a :: b :: rest) pos) (wOrT ta tb) :=
  (pw_or ha hb).imp fun _ _ _ h => sem_orT h
theorem t_w (h : SimW X C a ta) : SimT X C a ta := PW.pt h
theorem t_not (ha : SimT X C a ta) : SimT X C (.UnaryOp .Not a pos) (wNotT ta) :=
  (pt_not ha).imp fun σ H Q ⟨ρ, w, Q', st, h, k⟩ => ⟨ρ, w, _, st, h, fun b ρ1 w1 H1 P1 q => k _ ρ1 w1 H1 P1 q⟩
theorem s_if (hc : SimT X C c ta) (ha : SimE X C a φa) (hb : SimE X C b φb) : SimE X C (.IfExp c a b pos) (wIf ta φa φb) :=
  (pe_ifExp hc ha hb).imp fun σ H Q ⟨ρ, w, Q', st, h, k⟩ => by
    refine ⟨ρ, w, _, st, h, fun b ρ1 w1 H1 P1 q => ?_⟩
    cases b with
    | true =>
      rw [if_pos rfl] at q ⊢
      exact ⟨ρ1, w1, _, P1.st, q, fun r2 ρ2 w2 y H2 P2 R2 F2 h2 => k r2 ρ2 w2 y H2 (P1.trans st P2) R2 (F2.back st P1) h2⟩
    | false =>
      rw [if_neg Bool.false_ne_true] at q ⊢
      exact ⟨ρ1, w1, _, P1.st, q, fun r2 ρ2 w2 y H2 P2 R2 F2 h2 => k r2 ρ2 w2 y H2 (P1.trans st P2) R2 (F2.back st P1) h2⟩
theorem isEmpty_len {α β : Type} {xs : List α} {ys : List β} (h : xs.length = ys.length) : xs.isEmpty = ys.isEmpty := by
  cases xs <;> cases ys <;> simp at h <;> rfl
theorem t_tr (xc : Xc X C) {e : Expr} {φ : WE} (h : SimE X C e φ) (he : ∀ whole, isTrue e X.env whole = (do let v ← whole; standAt e.pos; holding [v] (truthy v)) := by intro _; rfl) : SimT X C e (wTr φ) :=
  (pt_truth h he).imp fun σ H Q ⟨ρ, w, Q', st, h, k⟩ => by
    refine ⟨ρ, w, _, st, h, fun r1 ρ1 w1 x H1 P1 R1 F1 ⟨b, hb, q⟩ => ?_⟩
    refine ⟨b, ?_, k b ρ1 w1 H1 P1 q⟩
    have R := R1.cont
    revert hb R
    generalize r1.d = d
    intro R hb
    cases d with
    | none => cases R; rw [hb.none]; rfl
    | bool c => cases R; rw [hb.bool]; rfl
    | int c => cases R; rw [hb.int]; rfl
    | list ds =>
      cases R
      obtain ⟨a, vs, rfl, h1, r1⟩ := hb.list P1.st
      refine .inl ⟨vs, SqL.of h1, ?_⟩
      rw [isEmpty_len r1.length]
    | tuple ds =>
      cases R
      obtain ⟨a, vs, rfl, h1, r1, _⟩ := hb.tuple P1.st
      refine .inr (.inl ⟨vs, by rw [xc.hK]; exact h1, ?_⟩)
      rw [isEmpty_len r1.length]
    | str _ => cases R
    | dict _ => cases R
end

/-! ### argument lists, displays -/
def nb : Res → Prop
  | .bo _ => False
  | _ => True
def wNil : WA := fun ρ Q => Q [] ρ
def wCons (a : WE) (t : WA) : WA := fun ρ Q => a ρ fun r ρ1 => nb r ∧ t ρ1 fun ds ρ2 => Q (r.d :: ds) ρ2
def wTup (t : WA) : WE := fun ρ Q => t ρ fun ds ρ1 => ds.length ≤ 16777216 ∧ Q (.im (.tuple ds)) ρ1
def wLst (t : WA) : WE := fun ρ Q => t ρ fun ds ρ1 => ds.length ≤ 16777216 ∧ Q (.fr (.list ds)) ρ1
theorem nb.ne {r : Res} (h : nb r) : ∀ d, r ≠ .bo d := fun d e => by subst e; exact h
section
variable {X : Cx} {C : Cc} {pos : Pos} {e : Expr} {es : List Expr} {φ : WE} {ψ : WA}
theorem sem_nil {σ : St} {H : Hp} {Q : List V → Hp → Prop} (h : semA C wNil σ H Q) : tNil σ H Q := by
  obtain ⟨ρ, w, Q', st, h, k⟩ := h
  exact k [] ρ w [] H (Post.refl st) RepAll.nil h
theorem a_nil : SimA X C [] wNil := pa_nil.imp fun _ _ _ h => sem_nil h
theorem sem_cons {σ : St} {H : Hp} {Q : List V → Hp → Prop} (h : semA C (wCons φ ψ) σ H Q) : tCons (semE C φ) (semA C ψ) σ H Q := by
  obtain ⟨ρ, w, Q', st, h, k⟩ := h
  refine ⟨ρ, w, _, st, h, fun r ρ1 w1 x H1 P1 R1 F1 ⟨n, h1⟩ => ?_⟩
  obtain ⟨w1', P1', hr⟩ := P1.cap st R1 F1 n.ne
  exact ⟨ρ1, w1', _, P1'.st, h1, fun ds ρ2 w2 vs H2 P2 rs q => k (r.d :: ds) ρ2 w2 (x :: vs) H2 (P1'.trans st P2) (RepAll.cons (Rep.mono P2.ext _ hr) rs) q⟩
theorem a_cons (ha : SimE X C e φ) (hr : SimA X C es ψ) (hs : starEach (e :: es) X.env = (false, eval e X.env) :: starEach es X.env := by rfl) : SimA X C (e :: es) (wCons φ ψ) :=
  (pa_cons ha hr hs).imp fun _ _ _ h => sem_cons h
theorem s_tup {x1} (h : SimA X C es ψ) : SimE X C (.Tuple es x1 pos) (wTup ψ) :=
  (pe_tup h).imp fun σ H Q ⟨ρ, w, Q', st, h, k⟩ => ⟨ρ, w, _, st, h, fun ds ρ1 w1 vs H1 P1 rs ⟨hl, q⟩ => ⟨by rw [rs.length, sl16]; exact hl, fun p hp => by
    obtain ⟨P, R⟩ := P1.st.newT hp rs
    exact k _ ρ1 _ _ _ (P1.trans st P) R trivial q⟩⟩
theorem s_lst (h : SimA X C es ψ) : SimE X C (.List es pos) (wLst ψ) :=
  (pe_lst h).imp fun σ H Q ⟨ρ, w, Q', st, h, k⟩ => ⟨ρ, w, _, st, h, fun ds ρ1 w1 vs H1 P1 rs ⟨hl, q⟩ => ⟨by rw [rs.length, sl16]; exact hl, fun p hp => by
    obtain ⟨P, R, F⟩ := P1.st.newL hp rs
    exact k _ ρ1 _ _ _ (P1.trans st P) R (F.back st P1) q⟩⟩

/-! ### subscripts -/
theorem s_ix {a b : Expr} {φa φb : WE} (xc : Xc X C) (ha : SimE X C a φa) (hb : SimE X C b φb) (hs : PlainIx b := by exact fun _ _ => rfl) : SimE X C (.Subscript a b pos) (wBin opIx φa φb) :=
  (pe_ix ix_seq ha hb hs).imp fun _ _ _ h => by rw [xc.hK]; exact sem_bin snd_ix h
end

/-! ### slices -/
abbrev WO := Sl → (Option Int → Sl → Prop) → Prop
def wNoP : WO := fun ρ Q => Q none ρ
def wP (a : WE) : WO := fun ρ Q => a ρ fun r ρ' => ∃ i, r.d = .int i ∧ Q (some i) ρ'
def cut {α : Type} (xs : List α) (lo hi : Option Int) : List α := (xs.drop (HT.sIx xs.length 0 lo)).take (HT.sIx xs.length xs.length hi - HT.sIx xs.length 0 lo)
def opSl : D → Option Int → Option Int → (Res → Prop) → Prop
  | .list ds, lo, hi, k => k (.fr (.list (cut ds lo hi)))
  | .tuple ds, lo, hi, k => k (.im (.tuple (cut ds lo hi)))
  | _, _, _, _ => False
def wSl (a : WE) (l h : WO) : WE := fun ρ Q => a ρ fun r ρ1 => l ρ1 fun lo ρ2 => h ρ2 fun hi ρ3 => opSl r.d lo hi fun r => Q r ρ3
def semO (C : Cc) (φ : WO) : TO := fun σ H Q => ∃ ρ w Q', StOk C ρ w σ H ∧ φ ρ Q' ∧ ∀ o ρ' w' H', Post C ρ w σ H ρ' w' H' → Q' o ρ' → Q o H'
theorem _root_.L2.PO.imp {X : Cx} {e : Option Expr} {t t' : TO} (h : PO X e t) (i : ∀ σ H Q, t' σ H Q → t σ H Q) : PO X e t' := ⟨fun pins s σ H Q I q => h.run pins s σ H Q I (i σ H Q q)⟩
section
variable {X : Cx} {C : Cc} {pos p2 : Pos} {e : Expr} {lo hi : Option Expr} {φ : WE} {l h : WO}
theorem o_none : PO X none (semO C wNoP) := po_none.imp fun σ H Q ⟨ρ, w, Q', st, h, k⟩ => k none ρ w H (Post.refl st) h
theorem o_some (ha : SimE X C e φ) : PO X (some e) (semO C (wP φ)) := (po_some ha).imp fun σ H Q ⟨ρ, w, Q', st, h, k⟩ =>
  ⟨ρ, w, _, st, h, fun r ρ1 w1 x H1 P1 R1 F1 ⟨i, hi, q⟩ => ⟨i, by have := R1.cont; rw [hi] at this; exact this.int, k _ ρ1 w1 H1 P1 q⟩⟩
theorem RepAll.cut {K : PySem.W.Frag} {W : Hp} {ds : List D} {vs : List V} (r : RepAll K W ds vs) (lo hi : Option Int) : RepAll K W (cut ds lo hi) (cutV vs lo hi) := by
  unfold PL.cut cutV
  rw [r.length]
  exact (r.drop _).take _
theorem s_sl (xc : Xc X C) (he : SimE X C e φ) (hl : PO X lo (semO C l)) (hh : PO X hi (semO C h)) : SimE X C (.Subscript e (.Slice lo hi none p2) pos) (wSl φ l h) :=
  (pe_slice (sl_list.or sl_tupA) he hl hh).imp fun σ H Q ⟨ρ, w, Q', st, h, k⟩ => by
    refine ⟨ρ, w, _, st, h, fun r1 ρ1 w1 x H1 P1 R1 F1 h1 => ⟨ρ1, w1, _, P1.st, h1, fun lo' ρ2 w2 H2 P2 h2 => ⟨ρ2, w2, _, P2.st, h2, fun hi' ρ3 w3 H3 P3 h3 => ?_⟩⟩⟩
    have P13 := P1.trans st (P2.trans P1.st P3)
    have c := (R1.cont.post P2).post P3
    revert h3 c
    generalize r1.d = d
    intro h3 c
    cases d with
    | list ds =>
      obtain ⟨a, vs, rfl, hH, rs⟩ := c.list P3.st
      refine .inl ⟨a, vs, rfl, SqL.of hH, fun p hp => ?_⟩
      obtain ⟨P, R, F⟩ := P3.st.newL hp (rs.cut lo' hi')
      exact k _ ρ3 _ _ _ (P13.trans st P) R (F.back st P13) h3
    | tuple ds =>
      obtain ⟨a, vs, rfl, hH, rs, e1⟩ := c.tuple P3.st
      refine .inr ⟨a, vs, rfl, by rw [xc.hK]; exact hH, fun hw => ?_, fun _ p hp => ?_⟩
      · have e2 : cut ds lo' hi' = ds := by
          unfold cut
          rw [← rs.length, hw.1, hw.2, Nat.sub_zero, List.drop_zero, rs.length, List.take_length]
        have h3' : Q' (.im (.tuple (cut ds lo' hi'))) ρ3 := h3
        rw [e2] at h3'
        exact k _ ρ3 _ _ _ P13 (show RepR C ρ3 w3 σ H3 _ (.im (.tuple ds)) from e1) trivial h3'
      · obtain ⟨P, R⟩ := P3.st.newT hp (rs.cut lo' hi')
        exact k (.im (.tuple (cut ds lo' hi'))) ρ3 _ _ _ (P13.trans st P) R trivial h3
    | none => exact h3.elim
    | bool _ => exact h3.elim
    | int _ => exact h3.elim
    | str _ => exact h3.elim
    | dict _ => exact h3.elim
end

/-! ### calls of built-ins -/
section
variable {X : Cx} {C : Cc} {pos p : Pos} {e e2 : Expr} {x : Str} {id T : String} {φ φ2 : WE} {f : D → (Res → Prop) → Prop} {g : D → D → (Res → Prop) → Prop} {r : List V → Hp → VK → Prop}
theorem sem_un1 (hs : UnSnd C f fun x H Q => r [x] H Q) {σ : St} {H : Hp} {Q : VK} (h : semE C (wUn f φ) σ H Q) : tCB r (tCons (semE C φ) tNil) σ H Q := by
  obtain ⟨ρ, w, Q', st, h, k⟩ := h
  refine ⟨ρ, w, _, st, h, fun r1 ρ1 w1 x H1 P1 R1 F1 h1 => ?_⟩
  exact hs ρ1 w1 σ H1 x _ _ Q P1.st R1.cont h1 fun res w' v H' P3 R3 F3 q => k res ρ1 w' v H' (P1.trans st P3) R3 (F3.back st P1) q
theorem sem_bin2 (hs : OpSnd C g fun x y H Q => r [x, y] H Q) {σ : St} {H : Hp} {Q : VK} (h : semE C (wBin g φ φ2) σ H Q) : tCB r (tCons (semE C φ) (tCons (semE C φ2) tNil)) σ H Q := sem_bin (r := fun x y H Q => r [x, y] H Q) hs h
theorem s_b1 (hc : CallR X (.builtin id) r) (hs : UnSnd C f fun x H Q => r [x] H Q) (hg : Gl X x) (hm : X.mg x = none) (hv : bootBuiltins x = some (.builtin id)) (ha : SimE X C e φ) (hn : x ≠ "__name__" := by decide) (hdb : (x == ("__debug__" : Str)) = false := by decide)
    (he : starEach [e] X.env = (false, eval e X.env) :: starEach [] X.env := by rfl) (hpl : (backTo pos (starEach [] X.env)).any (·.1) = false := by rfl) : SimE X C (.Call (.Name x p) [e] [] pos) (wUn f φ) :=
  (pe_callB hc hg hm hv (pa_cons ha pa_nil he) hn hdb he hpl).imp fun _ _ _ h => sem_un1 hs h
theorem s_b2 (hc : CallR X (.builtin id) r) (hs : OpSnd C g fun x y H Q => r [x, y] H Q) (hg : Gl X x) (hm : X.mg x = none) (hv : bootBuiltins x = some (.builtin id)) (ha : SimE X C e φ) (hb : SimE X C e2 φ2) (hn : x ≠ "__name__" := by decide) (hdb : (x == ("__debug__" : Str)) = false := by decide)
    (he : starEach [e, e2] X.env = (false, eval e X.env) :: starEach [e2] X.env := by rfl) (he2 : starEach [e2] X.env = (false, eval e2 X.env) :: starEach [] X.env := by rfl) (hpl : (backTo pos (starEach [e2] X.env)).any (·.1) = false := by rfl) : SimE X C (.Call (.Name x p) [e, e2] [] pos) (wBin g φ φ2) :=
  (pe_callB hc hg hm hv (pa_cons ha (pa_cons hb pa_nil he2) he) hn hdb he hpl).imp fun _ _ _ h => sem_bin2 hs h
theorem s_ty1 (hc : CallR X (.type T) r) (hs : UnSnd C f fun x H Q => r [x] H Q) (hg : Gl X x) (hm : X.mg x = none) (hv : bootBuiltins x = some (.type T)) (ha : SimE X C e φ) (hn : x ≠ "__name__" := by decide) (hdb : (x == ("__debug__" : Str)) = false := by decide)
    (he : starEach [e] X.env = (false, eval e X.env) :: starEach [] X.env := by rfl) (hpl : (backTo pos (starEach [] X.env)).any (·.1) = false := by rfl) : SimE X C (.Call (.Name x p) [e] [] pos) (wUn f φ) :=
  (pe_callTy hc hg hm hv (pa_cons ha pa_nil he) hn hdb he hpl).imp fun _ _ _ h => sem_un1 hs h
end
def opLen : D → (Res → Prop) → Prop
  | .list ds, k => k (.im (.int ds.length))
  | .tuple ds, k => k (.im (.int ds.length))
  | _, _ => False
def opAbs : D → (Res → Prop) → Prop
  | .int i, k => k (.im (.int (if i < 0 then -i else i)))
  | _, _ => False
def opInt : D → (Res → Prop) → Prop
  | .int i, k => k (.im (.int i))
  | _, _ => False
/-- the ints that some items are -/
def intsD : List D → Option (List Int)
  | [] => some []
  | .int i :: ds => (intsD ds).map (i :: ·)
  | _ :: _ => none
theorem intsD_map : ∀ ns : List Int, intsD (ns.map PyData.int) = some ns
  | [] => rfl
  | n :: ns => by simp [intsD, intsD_map ns]
theorem intsD_of : ∀ {ds : List D} {ns : List Int}, intsD ds = some ns → ds = ns.map PyData.int
  | [], _, h => by simp [intsD] at h; subst h; rfl
  | .int i :: ds, _, h => by
    simp only [intsD, Option.map_eq_some_iff] at h
    obtain ⟨ms, h1, rfl⟩ := h
    rw [intsD_of h1]; rfl
  | .none :: _, _, h => by simp [intsD] at h
  | .bool _ :: _, _, h => by simp [intsD] at h
  | .str _ :: _, _, h => by simp [intsD] at h
  | .list _ :: _, _, h => by simp [intsD] at h
  | .tuple _ :: _, _, h => by simp [intsD] at h
  | .dict _ :: _, _, h => by simp [intsD] at h
def boolsD : List D → Option (List Bool)
  | [] => some []
  | .bool i :: ds => (boolsD ds).map (i :: ·)
  | _ :: _ => none
theorem boolsD_map : ∀ ns : List Bool, boolsD (ns.map PyData.bool) = some ns
  | [] => rfl
  | n :: ns => by simp [boolsD, boolsD_map ns]
theorem boolsD_of : ∀ {ds : List D} {ns : List Bool}, boolsD ds = some ns → ds = ns.map PyData.bool
  | [], _, h => by simp [boolsD] at h; subst h; rfl
  | .bool i :: ds, _, h => by
    simp only [boolsD, Option.map_eq_some_iff] at h
    obtain ⟨ms, h1, rfl⟩ := h
    rw [boolsD_of h1]; rfl
  | .none :: _, _, h => by simp [boolsD] at h
  | .int _ :: _, _, h => by simp [boolsD] at h
  | .str _ :: _, _, h => by simp [boolsD] at h
  | .list _ :: _, _, h => by simp [boolsD] at h
  | .tuple _ :: _, _, h => by simp [boolsD] at h
  | .dict _ :: _, _, h => by simp [boolsD] at h
def opSum : D → (Res → Prop) → Prop
  | .list ds, k => ∃ ns, intsD ds = some ns ∧ k (.im (.int ns.sum))
  | _, _ => False
def opMax : D → (Res → Prop) → Prop
  | .list ds, k => ∃ ns, intsD ds = some ns ∧ ns ≠ [] ∧ ∀ m, m ∈ ns → (∀ y, y ∈ ns → y ≤ m) → k (.im (.int m))
  | _, _ => False
def opMin : D → (Res → Prop) → Prop
  | .list ds, k => ∃ ns, intsD ds = some ns ∧ ns ≠ [] ∧ ∀ m, m ∈ ns → (∀ y, y ∈ ns → m ≤ y) → k (.im (.int m))
  | _, _ => False
def opMax2 : D → D → (Res → Prop) → Prop
  | .int i, .int j, k => k (.im (.int (if j > i then j else i)))
  | _, _, _ => False
def opMin2 : D → D → (Res → Prop) → Prop
  | .int i, .int j, k => k (.im (.int (if j < i then j else i)))
  | _, _, _ => False
def opAll : D → (Res → Prop) → Prop
  | .list ds, k => ∃ bs, boolsD ds = some bs ∧ k (.im (.bool (bs.all id)))
  | _, _ => False
def opAny : D → (Res → Prop) → Prop
  | .list ds, k => ∃ bs, boolsD ds = some bs ∧ k (.im (.bool (bs.any id)))
  | _, _ => False
def opList : D → (Res → Prop) → Prop
  | .list ds, k => k (.fr (.list ds))
  | .tuple ds, k => k (.fr (.list ds))
  | _, _ => False
def opTuple : D → (Res → Prop) → Prop
  | .list ds, k => k (.im (.tuple ds))
  | .tuple ds, k => k (.im (.tuple ds))
  | _, _ => False
/-- sorted, of a list of ints -/
def opSorted : D → (Res → Prop) → Prop
  | .list ds, k => ∃ ns, intsD ds = some ns ∧ ∀ ms : List Int, ms.Perm ns → ms.Pairwise (· ≤ ·) → k (.fr (.list (ms.map .int)))
  | _, _ => False
section
variable {X : Cx} {C : Cc}
theorem CallR.cast {K : PySem.W.Frag} {v : Value} {r : PySem.W.Frag → List V → Hp → VK → Prop} (h : CallR X v (r X.K)) (e : X.K = K) : CallR X v (r K) := e ▸ h
theorem snd_len : UnSnd C opLen fun x H Q => (fun xs H Q => ∃ p ys, xs = [.ref p] ∧ (SqL C.K H p ys ∨ SqT C.K H p ys) ∧ Q (.int ys.length) H : List V → Hp → VK → Prop) [x] H Q := by
  intro ρ w σ H x d1 k Q st c1 h q
  unfold opLen at h; split at h
  · obtain ⟨a, vs, rfl, h1, r1⟩ := c1.list st
    refine ⟨a, vs, rfl, .inl (SqL.of h1), ?_⟩
    rw [r1.length]
    exact q (.im (.int _)) w _ H (Post.refl st) rr_int trivial h
  · obtain ⟨a, vs, rfl, h1, r1, _⟩ := c1.tuple st
    refine ⟨a, vs, rfl, .inr h1, ?_⟩
    rw [r1.length]
    exact q (.im (.int _)) w _ H (Post.refl st) rr_int trivial h
  · exact h.elim
theorem snd_abs : UnSnd C opAbs fun x H Q => (fun xs H Q => ∃ i, xs = [.int i] ∧ Q (.int (if i < 0 then -i else i)) H : List V → Hp → VK → Prop) [x] H Q := by
  intro ρ w σ H x d1 k Q st c1 h q
  unfold opAbs at h; split at h
  · exact ⟨_, by rw [c1.int], q (.im (.int _)) w _ H (Post.refl st) rr_int trivial h⟩
  · exact h.elim
theorem snd_int : UnSnd C opInt fun x H Q => (fun xs H Q => (∃ i, xs = [.int i] ∧ Q (.int i) H) ∨ ∃ k, xs = [.bl k] ∧ Q (.int (if k then 1 else 0)) H : List V → Hp → VK → Prop) [x] H Q := by
  intro ρ w σ H x d1 k Q st c1 h q
  unfold opInt at h; split at h
  · exact .inl ⟨_, by rw [c1.int], q (.im (.int _)) w _ H (Post.refl st) rr_int trivial h⟩
  · exact h.elim
theorem ints_at {w : Wd} {ds : List D} {vs : List V} {ns : List Int} (r : RepAll C.K w.W ds vs) (e : intsD ds = some ns) : vs = ns.map V.int := by
  rw [intsD_of e] at r; exact r.ints
theorem snd_sum : UnSnd C opSum fun x H Q => rSum C.K [x] H Q := by
  intro ρ w σ H x d1 k Q st c1 h q
  unfold opSum at h; split at h
  · obtain ⟨ns, e, h⟩ := h
    obtain ⟨a, vs, rfl, h1, r1⟩ := c1.list st
    exact ⟨a, ns, rfl, SqL.of (by rw [h1, ints_at r1 e]), q (.im (.int _)) w _ H (Post.refl st) rr_int trivial h⟩
  · exact h.elim
theorem snd_max : UnSnd C opMax fun x H Q => rMax C.K [x] H Q := by
  intro ρ w σ H x d1 k Q st c1 h q
  unfold opMax at h; split at h
  · obtain ⟨ns, e, h0, h⟩ := h
    obtain ⟨a, vs, rfl, h1, r1⟩ := c1.list st
    exact ⟨a, ns, rfl, SqL.of (by rw [h1, ints_at r1 e]), List.length_pos_iff.mpr h0, fun m m1 m2 => q (.im (.int _)) w _ H (Post.refl st) rr_int trivial (h m m1 m2)⟩
  · exact h.elim
theorem snd_min : UnSnd C opMin fun x H Q => rMin C.K [x] H Q := by
  intro ρ w σ H x d1 k Q st c1 h q
  unfold opMin at h; split at h
  · obtain ⟨ns, e, h0, h⟩ := h
    obtain ⟨a, vs, rfl, h1, r1⟩ := c1.list st
    exact ⟨a, ns, rfl, SqL.of (by rw [h1, ints_at r1 e]), List.length_pos_iff.mpr h0, fun m m1 m2 => q (.im (.int _)) w _ H (Post.refl st) rr_int trivial (h m m1 m2)⟩
  · exact h.elim
theorem snd_max2 : OpSnd C opMax2 fun x y H Q => (fun xs H Q => ∃ i j, xs = [.int i, .int j] ∧ Q (.int (if j > i then j else i)) H : List V → Hp → VK → Prop) [x, y] H Q := by
  intro ρ w σ H x y d1 d2 k Q st c1 c2 h q
  unfold opMax2 at h; split at h
  · exact ⟨_, _, by rw [c1.int, c2.int], q (.im (.int _)) w _ H (Post.refl st) rr_int trivial h⟩
  · exact h.elim
theorem snd_min2 : OpSnd C opMin2 fun x y H Q => (fun xs H Q => ∃ i j, xs = [.int i, .int j] ∧ Q (.int (if j < i then j else i)) H : List V → Hp → VK → Prop) [x, y] H Q := by
  intro ρ w σ H x y d1 d2 k Q st c1 c2 h q
  unfold opMin2 at h; split at h
  · exact ⟨_, _, by rw [c1.int, c2.int], q (.im (.int _)) w _ H (Post.refl st) rr_int trivial h⟩
  · exact h.elim
theorem bools_at {w : Wd} {ds : List D} {vs : List V} {ns : List Bool} (r : RepAll C.K w.W ds vs) (e : boolsD ds = some ns) : vs = ns.map V.bl := by
  rw [boolsD_of e] at r; exact r.bools
theorem snd_all : UnSnd C opAll fun x H Q => rAll C.K [x] H Q := by
  intro ρ w σ H x d1 k Q st c1 h q
  unfold opAll at h; split at h
  · obtain ⟨ns, e, h⟩ := h
    obtain ⟨a, vs, rfl, h1, r1⟩ := c1.list st
    exact ⟨a, ns, rfl, SqL.of (by rw [h1, bools_at r1 e]), q (.im (.bool _)) w _ H (Post.refl st) rr_bl trivial h⟩
  · exact h.elim
theorem snd_any : UnSnd C opAny fun x H Q => rAny C.K [x] H Q := by
  intro ρ w σ H x d1 k Q st c1 h q
  unfold opAny at h; split at h
  · obtain ⟨ns, e, h⟩ := h
    obtain ⟨a, vs, rfl, h1, r1⟩ := c1.list st
    exact ⟨a, ns, rfl, SqL.of (by rw [h1, bools_at r1 e]), q (.im (.bool _)) w _ H (Post.refl st) rr_bl trivial h⟩
  · exact h.elim
theorem snd_list : UnSnd C opList fun x H Q => (fun xs H Q => ∃ p ys, xs = [.ref p] ∧ (SqL C.K H p ys ∨ SqT C.K H p ys) ∧ ∀ l, H l = none → Q (.ref l) (upd H l (.lst ys)) : List V → Hp → VK → Prop) [x] H Q := by
  intro ρ w σ H x d1 k Q st c1 h q
  unfold opList at h; split at h
  · obtain ⟨a, vs, rfl, h1, r1⟩ := c1.list st
    refine ⟨a, vs, rfl, .inl (SqL.of h1), fun l hl => ?_⟩
    obtain ⟨P, R, F⟩ := st.newL hl r1
    exact q _ w _ _ P R F h
  · obtain ⟨a, vs, rfl, h1, r1, _⟩ := c1.tuple st
    refine ⟨a, vs, rfl, .inr h1, fun l hl => ?_⟩
    obtain ⟨P, R, F⟩ := st.newL hl r1
    exact q _ w _ _ P R F h
  · exact h.elim
theorem snd_tuple : UnSnd C opTuple fun x H Q => (fun xs H Q => ∃ p ys, xs = [.ref p] ∧ ((SqL C.K H p ys ∧ ∀ l, H l = none → Q (.ref l) (upd H l (.tup ys))) ∨ (SqT C.K H p ys ∧ Q (.ref p) H)) : List V → Hp → VK → Prop) [x] H Q := by
  intro ρ w σ H x d1 k Q st c1 h q
  unfold opTuple at h; split at h
  · obtain ⟨a, vs, rfl, h1, r1⟩ := c1.list st
    refine ⟨a, vs, rfl, .inl ⟨SqL.of h1, fun l hl => ?_⟩⟩
    obtain ⟨P, R⟩ := st.newT hl r1
    exact q _ _ _ _ P R trivial h
  · obtain ⟨a, vs, rfl, h1, r1, e⟩ := c1.tuple st
    exact ⟨a, vs, rfl, .inr ⟨h1, q (.im (.tuple _)) w _ H (Post.refl st) e trivial h⟩⟩
  · exact h.elim
theorem snd_sorted : UnSnd C opSorted fun x H Q => rSortedI C.K [x] H Q := by
  intro ρ w σ H x d1 k Q st c1 h q
  unfold opSorted at h; split at h
  · obtain ⟨ns, e, h⟩ := h
    obtain ⟨a, vs, rfl, h1, r1⟩ := c1.list st
    refine ⟨a, ns, rfl, SqL.of (by rw [h1, ints_at r1 e]), fun ms p m1 m2 hp => ?_⟩
    obtain ⟨P, R, F⟩ := st.newL hp (RepAll.of_ints (K := C.K) (W := w.W) (ns := ms))
    exact q _ w _ _ P R F (h ms m1 m2)
  · exact h.elim
end

/-! ### isinstance with a written built-in type -/
def tyD : D → String
  | .none => "NoneType" | .bool _ => "bool" | .int _ => "int" | .str _ => "str" | .list _ => "list" | .tuple _ => "tuple" | .dict _ => "dict"
def isiD (T : String) : D → Bool
  | .bool _ => T == "bool" || T == "int"
  | d => tyD d == T
def wIsi (T : String) (a : WE) : WE := fun ρ Q => a ρ fun r ρ1 => Q (.im (.bool (isiD T r.d))) ρ1
theorem Cont.ty {C : Cc} {ρ : Sl} {w : Wd} {σ : St} {H : Hp} {x : V} {d : D} (st : StOk C ρ w σ H) (c : Cont C w H x d) : TyX C.K H x (.type (tyD d)) := by
  cases d with
  | none => rw [c.none]; exact .base .non
  | bool b => rw [c.bool]; exact .base (.bl b)
  | int b => rw [c.int]; exact .base (.int b)
  | str b => rw [c.str]; exact .base (.str b)
  | list ds => obtain ⟨a, vs, rfl, h1, r1⟩ := c.list st; exact .base (.lst h1)
  | tuple ds =>
    obtain ⟨a, vs, rfl, h1, r1, _⟩ := c.tuple st
    rcases h1 with (h1 | ⟨o, h1⟩) | ⟨o, its, n, h1, h2, _⟩
    · exact .base (.tup h1)
    · exact .fTuple h1
    · exact .kTuple h1 h2
  | dict kvs =>
    rcases c with h | ⟨p, rfl, _, h⟩
    · simp only [Rep] at h
    · simp only [OwnAt] at h
theorem kit_int : ∀ d : D, kitB (tyD d) "int" = some (isiD "int" d)
  | .none => by decide +kernel
  | .bool _ => by show kitB "bool" "int" = some true; decide +kernel
  | .int _ => by show kitB "int" "int" = some true; decide +kernel
  | .str _ => by show kitB "str" "int" = some false; decide +kernel
  | .list _ => by show kitB "list" "int" = some false; decide +kernel
  | .tuple _ => by show kitB "tuple" "int" = some false; decide +kernel
  | .dict _ => by show kitB "dict" "int" = some false; decide +kernel
theorem kit_bool : ∀ d : D, kitB (tyD d) "bool" = some (isiD "bool" d)
  | .none => by decide +kernel
  | .bool _ => by show kitB "bool" "bool" = some true; decide +kernel
  | .int _ => by show kitB "int" "bool" = some false; decide +kernel
  | .str _ => by show kitB "str" "bool" = some false; decide +kernel
  | .list _ => by show kitB "list" "bool" = some false; decide +kernel
  | .tuple _ => by show kitB "tuple" "bool" = some false; decide +kernel
  | .dict _ => by show kitB "dict" "bool" = some false; decide +kernel
theorem kit_str : ∀ d : D, kitB (tyD d) "str" = some (isiD "str" d)
  | .none => by decide +kernel
  | .bool _ => by show kitB "bool" "str" = some false; decide +kernel
  | .int _ => by show kitB "int" "str" = some false; decide +kernel
  | .str _ => by show kitB "str" "str" = some true; decide +kernel
  | .list _ => by show kitB "list" "str" = some false; decide +kernel
  | .tuple _ => by show kitB "tuple" "str" = some false; decide +kernel
  | .dict _ => by show kitB "dict" "str" = some false; decide +kernel
theorem kit_tuple : ∀ d : D, kitB (tyD d) "tuple" = some (isiD "tuple" d)
  | .none => by decide +kernel
  | .bool _ => by show kitB "bool" "tuple" = some false; decide +kernel
  | .int _ => by show kitB "int" "tuple" = some false; decide +kernel
  | .str _ => by show kitB "str" "tuple" = some false; decide +kernel
  | .list _ => by show kitB "list" "tuple" = some false; decide +kernel
  | .tuple _ => by show kitB "tuple" "tuple" = some true; decide +kernel
  | .dict _ => by show kitB "dict" "tuple" = some false; decide +kernel
theorem kit_list : ∀ d : D, kitB (tyD d) "list" = some (isiD "list" d)
  | .none => by decide +kernel
  | .bool _ => by show kitB "bool" "list" = some false; decide +kernel
  | .int _ => by show kitB "int" "list" = some false; decide +kernel
  | .str _ => by show kitB "str" "list" = some false; decide +kernel
  | .list _ => by show kitB "list" "list" = some true; decide +kernel
  | .tuple _ => by show kitB "tuple" "list" = some false; decide +kernel
  | .dict _ => by show kitB "dict" "list" = some false; decide +kernel
theorem s_isi {X : Cx} {C : Cc} {pos p p2 : Pos} {e : Expr} {φ : WE} {T : String} {y : Str} (xc : Xc X C) (hk : ∀ d, kitB (tyD d) T = some (isiD T d)) (hg : Gl X "isinstance") (hm : X.mg "isinstance" = none) (hg2 : Gl X y) (hm2 : X.mg y = none) (hv : bootBuiltins y = some (.type T)) (ha : SimE X C e φ)
    (hn : y ≠ "__name__" := by decide) (hdb : (y == ("__debug__" : Str)) = false := by decide)
    (he : starEach [e, .Name y p2] X.env = (false, eval e X.env) :: starEach [.Name y p2] X.env := by rfl) (hpl : (backTo pos (starEach [.Name y p2] X.env)).any (·.1) = false := by rfl) : SimE X C (.Call (.Name "isinstance" p) [e, .Name y p2] [] pos) (wIsi T φ) :=
  (pe_callB call_isi hg hm (by decide +kernel) (pa_cons ha (pa_cons (pe_bltn (v := .ty T) hg2 hm2 hv rfl hn hdb) pa_nil) he) (by decide) (by decide) he hpl).imp fun σ H Q ⟨ρ, w, Q', st, h, k⟩ =>
    ⟨ρ, w, _, st, h, fun r ρ1 w1 x H1 P1 R1 F1 q => ⟨x, .ty T, .type (tyD r.d), .type T, isiD T r.d, rfl, .ty T, by rw [xc.hK]; exact R1.cont.ty P1.st, kit_ty (hk _), k _ ρ1 w1 _ H1 P1 rr_bl trivial q⟩⟩
end PL

set_option Elab.async false
set_option linter.all false
set_option maxRecDepth 100000
set_option maxHeartbeats 4000000
namespace PL
open PySem L2
/-! ### calls of the text's own defs -/
def RetR (K : PySem.W.Frag) (H : Hp) (w' : Wd) (H' : Hp) (v : V) : Res → Prop
  | .im d => Rep K w'.W d v
  | .fr d => ∃ p, v = .ref p ∧ H p = none ∧ w'.W p = none ∧ w'.pc ≠ some p ∧ OwnAt K w' H' p d
  | .bo _ => False
structure Ret (w : Wd) (H : Hp) (w' : Wd) (H' : Hp) : Prop where
  sub : Sub w'.W H'
  cup : CupAt w' H'
  ext : Sub w.W w'.W
  pc : w'.pc = w.pc
  frm : ∀ a o, H a = some o → w.pc ≠ some a → H' a = some o
  new : ∀ a o, w'.W a = some o → w.W a = some o ∨ H a = none
def spOf (K : PySem.W.Frag) (cup : Bool) (S : FSpec) : Sp := fun vs H Q _ => ∃ (w : Wd) (ds : List D) (us : List V), Sub w.W H ∧ CupAt w H ∧
  (match cup with | true => ∃ p, w.pc = some p ∧ vs = .ref p :: us | false => w.pc = none ∧ vs = us) ∧ RepAll K w.W ds us ∧
  ∃ k : Res → Prop, S ds k ∧ ∀ r w' v H', k r → Ret w H w' H' → RetR K H w' H' v r → Q v H'
section
variable {C : Cc} {ρ ρ' : Sl} {w w' : Wd} {σ : St} {H H' : Hp} {v : V} {r : Res}
theorem StOk.carry (st : StOk C ρ w σ H) (sub : Sub w'.W H') (cup : CupAt w' H') (ext : Sub w.W w'.W) (pc : w'.pc = w.pc) (frm : ∀ a o, H a = some o → w.pc ≠ some a → H' a = some o)
    (new : ∀ a o, w'.W a = some o → w.W a = some o ∨ H a = none) : Post C ρ w σ H ρ w' H' := by
  refine ⟨⟨sub, cup, fun i sv q => ?_, st.dist, fun a o q n => ?_, fun a o q => ?_, st.ext.trans ext, pc.trans st.pce, st.len⟩, ext, pc, frm, fun a o q => ?_, fun _ h => h⟩
  · obtain ⟨v, h1, h2⟩ := st.sl i sv q
    refine ⟨v, h1, h2.keep ext pc frm fun d p e e2 => ?_⟩
    subst e
    obtain ⟨p2, e', _, h3, _, h5⟩ := h2
    rw [e2] at e'; cases e'
    obtain ⟨o2, eo⟩ := OwnAt.there h5
    cases z : w'.W p with
    | none => rfl
    | some u =>
      rcases new p u z with h | h
      · rw [h3] at h; cases h
      · rw [eo] at h; cases h
  · exact frm a o (st.old a o q n) (by rw [st.pce]; exact n)
  · rcases new a o q with h | h
    · exact st.new a o h
    · exact .inr (st.h0 h)
  · rcases new a o q with h | h
    · exact .inl h
    · exact .inr (.inl h)
theorem Ret.post (st : StOk C ρ w σ H) (R : Ret w H w' H') : Post C ρ w σ H ρ w' H' := st.carry R.sub R.cup R.ext R.pc R.frm R.new
theorem RetR.repr (st : StOk C ρ w σ H) (R : RetR C.K H w' H' v r) : RepR C ρ w' σ H' v r := by
  cases r with
  | im d => exact R
  | fr d =>
    obtain ⟨p, e, h1, h2, h3, h4⟩ := R
    exact ⟨p, e, st.h0 h1, h2, h3, st.noSl h1, h4⟩
  | bo d => exact R.elim
theorem RetR.fre (R : RetR C.K H w' H' v r) : Fre ρ σ H v r := by
  cases r with
  | im d => trivial
  | fr d =>
    obtain ⟨p, e, h1, _⟩ := R
    intro q e2
    rw [e] at e2; cases e2
    exact .inl h1
  | bo d => trivial
/-- a callee that knows no cup -/
theorem Ret.pc0 (st : StOk C ρ w σ H) (R : Ret ⟨w.W, none⟩ H w' H') : Ret w H ⟨w'.W, w.pc⟩ H' := by
  refine ⟨R.sub, fun p q => ?_, R.ext, rfl, fun a o q _ => R.frm a o q (by simp), R.new⟩
  obtain ⟨h1, x, y, h2, h3, h4⟩ := st.cup p q
  refine ⟨?_, x, y, h2, h3, R.frm p _ h4 (by simp)⟩
  cases z : w'.W p with
  | none => rfl
  | some u =>
    rcases R.new p u z with h | h
    · rw [h1] at h; cases h
    · rw [h4] at h; cases h
theorem RetR.pc0 (st : StOk C ρ w σ H) (R : RetR C.K H w' H' v r) : RetR C.K H ⟨w'.W, w.pc⟩ H' v r := by
  cases r with
  | im d => exact R
  | fr d =>
    obtain ⟨p, e, h1, h2, h3, h4⟩ := R
    refine ⟨p, e, h1, h2, st.noPc h1, ?_⟩
    cases d <;> simp only [OwnAt] at h4 ⊢
    exact h4
  | bo d => exact R.elim
end
def wCall (S : FSpec) (t : WA) : WE := fun ρ Q => t ρ fun ds ρ1 => S ds fun r => Q r ρ1
def wCallC (i : Nat) (S : FSpec) (t : WA) : WE := fun ρ Q => ρ[i]? = some (some .cup) ∧ t ρ fun ds ρ1 => S ds fun r => Q r ρ1
section
variable {X : Cx} {C : Cc} {k : Nat} {f : Addr} {fd : FuncData} {ps : List Str} {S : FSpec} {x y : Str} {p p2 pos : Pos} {e : Expr} {es : List Expr} {ψ : WA}
theorem s_call (xc : Xc X C) (F : FnOk X.prog X.w X.K X.mg X.base CX0 k f fd ps (spOf X.K false S)) (hr : Room k X.A) (hg : Gl X x) (hm : X.mg x = some (.ref f)) (hk : PySem.W.keepIn X.K (.ref f) = true) (hb : Binds X.K fd ps [])
    (ha : SimA X C (e :: es) ψ) (hdb : (x == ("__debug__" : Str)) = false := by decide) (he : starEach (e :: es) X.env = (false, eval e X.env) :: starEach es X.env := by rfl) (hpl : (backTo pos (starEach es X.env)).any (·.1) = false := by rfl) :
    SimE X C (.Call (.Name x p) (e :: es) [] pos) (wCall S ψ) :=
  (pe_call F hr hg hm hk hb .nil pass0 ha hdb he hpl).imp fun σ H Q ⟨ρ, w, Q', st, h, kk⟩ =>
    ⟨ρ, w, _, st, h, fun ds ρ1 w1 vs H1 P1 rs q => by
      show spOf X.K false S (vs ++ []) H1 Q E0
      rw [List.append_nil, xc.hK]
      refine ⟨⟨w1.W, none⟩, ds, vs, P1.st.sub, fun p z => (by cases z), ⟨rfl, rfl⟩, rs, _, q, fun r w' v H' h1 R RR => ?_⟩
      have R' := R.pc0 P1.st
      have RR' := RR.pc0 P1.st
      exact kk r ρ1 _ v H' (P1.trans st (R'.post P1.st)) (RR'.repr P1.st) (RR'.fre.back st P1) h1⟩
theorem s_call0 (xc : Xc X C) (F : FnOk X.prog X.w X.K X.mg X.base CX0 k f fd ps (spOf X.K false S)) (hr : Room k X.A) (hg : Gl X x) (hm : X.mg x = some (.ref f)) (hk : PySem.W.keepIn X.K (.ref f) = true) (hb : Binds X.K fd ps [])
    (hdb : (x == ("__debug__" : Str)) = false := by decide) : SimE X C (.Call (.Name x p) [] [] pos) (wCall S wNil) :=
  (pe_call0 F hr hg hm hk hb .nil pass0 hdb).imp fun σ H Q ⟨ρ, w, Q', st, h, kk⟩ => by
    show spOf X.K false S ([] ++ []) H Q E0
    rw [xc.hK]
    refine ⟨⟨w.W, none⟩, [], [], st.sub, fun p z => (by cases z), ⟨rfl, rfl⟩, RepAll.nil, _, h, fun r w' v H' h1 R RR => ?_⟩
    have R' := R.pc0 st
    have RR' := RR.pc0 st
    exact kk r ρ _ v H' (R'.post st) (RR'.repr st) RR'.fre h1
theorem s_callC (xc : Xc X C) (i : Nat) (F : FnOk X.prog X.w X.K X.mg X.base CX0 k f fd ps (spOf X.K true S)) (hr : Room k X.A) (hg : Gl X x) (hm : X.mg x = some (.ref f)) (hk : PySem.W.keepIn X.K (.ref f) = true) (hb : Binds X.K fd ps [])
    (ha : SimA X C es ψ) (hN : X.N[i]? = some y := by rfl) (hv : Vis X.env.scope y := by first | exact Or.inl rfl | exact Or.inr (Or.inl rfl) | exact Or.inr (Or.inr rfl))
    (hdy : (y == ("__debug__" : Str)) = false := by decide) (hcd : (y == ("__classdict__" : Str)) = false := by decide)
    (hdb : (x == ("__debug__" : Str)) = false := by decide) (he : starEach (.Name y p2 :: es) X.env = (false, eval (.Name y p2) X.env) :: starEach es X.env := by rfl) (hpl : (backTo pos (starEach es X.env)).any (·.1) = false := by rfl) :
    SimE X C (.Call (.Name x p) (.Name y p2 :: es) [] pos) (wCallC i S ψ) :=
  (pe_call F hr hg hm hk hb .nil pass0 (pa_cons (pe_var hN hv hdy hcd) ha he) hdb he hpl).imp fun σ H Q ⟨ρ, w, Q', st, ⟨hc, h⟩, kk⟩ => by
    obtain ⟨v, h1, pp, rfl, h2⟩ := st.sl i _ hc
    refine ⟨_, h1, ρ, w, _, st, h, fun ds ρ1 w1 vs H1 P1 rs q => ?_⟩
    show spOf X.K true S ((V.ref pp :: vs) ++ []) H1 Q E0
    rw [List.append_nil, xc.hK]
    refine ⟨w1, ds, vs, P1.st.sub, P1.st.cup, ⟨pp, by rw [P1.pc]; exact h2, rfl⟩, rs, _, q, fun r w' v H' h1 R RR => ?_⟩
    exact kk r ρ1 _ v H' (P1.trans st (R.post P1.st)) (RR.repr P1.st) (RR.fre.back st P1) h1
end

/-! ### targets -/
abbrev WG := D → Sl → (Sl → Prop) → Prop
abbrev WGs := List D → Sl → (Sl → Prop) → Prop
def gN (j : Nat) : WG := fun d ρ k => k (ρ.set j (some (.val d)))
def gT (n : Nat) (gs : WGs) : WG := fun d ρ k => match d with | .tuple ds => ds.length = n ∧ gs ds ρ k | _ => False
def gs0 : WGs := fun ds ρ k => match ds with | [] => k ρ | _ => False
def gsC (g : WG) (gs : WGs) : WGs := fun ds ρ k => match ds with | d :: r => g d ρ fun ρ' => gs r ρ' k | [] => False
def Touch (js : List Nat) (σ σ' : St) : Prop := σ'.length = σ.length ∧ ∀ i, i ∉ js → σ'[i]? = σ[i]?
theorem Touch.refl (js : List Nat) (σ : St) : Touch js σ σ := ⟨rfl, fun _ _ => rfl⟩
theorem Touch.trans {js : List Nat} {a b c : St} (h : Touch js a b) (g : Touch js b c) : Touch js a c := ⟨g.1.trans h.1, fun i n => (g.2 i n).trans (h.2 i n)⟩
theorem Touch.mono {js ks : List Nat} {a b : St} (h : Touch js a b) (s : ∀ j ∈ js, j ∈ ks) : Touch ks a b := ⟨h.1, fun i n => h.2 i fun q => n (s i q)⟩
def semG (C : Cc) (js : List Nat) (φ : WG) : TG := fun v σ H Q => ∃ d ρ w k, StOk C ρ w σ H ∧ Rep C.K w.W d v ∧ φ d ρ k ∧ ∀ ρ' σ', StOk C ρ' w σ' H → Touch js σ σ' → k ρ' → Q σ' H
def semGs (C : Cc) (js : List Nat) (φ : WGs) : TGs := fun vs σ H Q => ∃ ds ρ w k, StOk C ρ w σ H ∧ RepAll C.K w.W ds vs ∧ φ ds ρ k ∧ ∀ ρ' σ', StOk C ρ' w σ' H → Touch js σ σ' → k ρ' → Q σ' H
theorem _root_.L2.PG.imp {X : Cx} {e : Expr} {t t' : TG} (h : PG X e t) (i : ∀ v σ H Q, t' v σ H Q → t v σ H Q) : PG X e t' := ⟨fun pins s σ H v u Q I r q => h.run pins s σ H v u Q I r (i v σ H Q q)⟩
theorem _root_.L2.PGs.imp {X : Cx} {e : List Expr} {t t' : TGs} (h : PGs X e t) (i : ∀ v σ H Q, t' v σ H Q → t v σ H Q) : PGs X e t' := ⟨fun pins s σ H v u Q I r q => h.run pins s σ H v u Q I r (i v σ H Q q)⟩
section
variable {C : Cc} {ρ : Sl} {w : Wd} {σ : St} {H : Hp}
/-- a slot is stored -/
theorem StOk.store (st : StOk C ρ w σ H) (i : Nat) {o : Option SV} {x : Option V} (h : ∀ sv, o = some sv → ∃ v, x = some v ∧ SvOk C w H v sv)
    (hn : ∀ d p, o = some (SV.own d) → x = some (.ref p) → ¬ ∃ (j : Nat) (e : D), j ≠ i ∧ ρ[j]? = some (some (SV.own e)) ∧ σ[j]? = some (some (.ref p))) : StOk C (ρ.set i o) w (σ.set i x) H := by
  have hl := st.len
  refine ⟨st.sub, st.cup, fun j sv q => ?_, fun j l d e p q1 q2 h1 h2 => ?_, st.old, st.new, st.ext, st.pce, by rw [List.length_set, List.length_set]; exact st.len⟩
  · by_cases e : i = j
    · subst e
      by_cases hi : i < ρ.length
      · rw [List.getElem?_set_self hi] at q
        obtain ⟨v, h1, h2⟩ := h sv (Option.some.inj q)
        exact ⟨v, by rw [List.getElem?_set_self (by omega), h1], h2⟩
      · rw [List.getElem?_eq_none (by simpa using hi)] at q; cases q
    · rw [List.getElem?_set_ne e] at q ⊢
      exact st.sl j sv q
  · have look : ∀ (j : Nat) (d : D), (ρ.set i o)[j]? = some (some (SV.own d)) → (σ.set i x)[j]? = some (some (.ref p)) → (j = i ∧ o = some (SV.own d) ∧ x = some (.ref p)) ∨ (j ≠ i ∧ ρ[j]? = some (some (SV.own d)) ∧ σ[j]? = some (some (.ref p))) := fun j d q1 q2 => by
      by_cases e : i = j
      · subst e
        by_cases hi : i < ρ.length
        · rw [List.getElem?_set_self hi] at q1
          rw [List.getElem?_set_self (by omega)] at q2
          exact .inl ⟨rfl, Option.some.inj q1, Option.some.inj q2⟩
        · rw [List.getElem?_eq_none (by simpa using hi)] at q1; cases q1
      · rw [List.getElem?_set_ne e] at q1 q2
        exact .inr ⟨Ne.symm e, q1, q2⟩
    rcases look j d q1 h1 with ⟨rfl, o1, x1⟩ | ⟨n1, a1, b1⟩
    · rcases look l e q2 h2 with ⟨rfl, _, _⟩ | ⟨n2, a2, b2⟩
      · rfl
      · exact (hn d p o1 x1 ⟨l, e, n2, a2, b2⟩).elim
    · rcases look l e q2 h2 with ⟨rfl, o2, x2⟩ | ⟨n2, a2, b2⟩
      · exact (hn e p o2 x2 ⟨j, d, n1, a1, b1⟩).elim
      · exact st.dist j l d e p a1 a2 b1 b2
theorem StOk.val (st : StOk C ρ w σ H) (i : Nat) {d : D} {v : V} (r : Rep C.K w.W d v) : StOk C (ρ.set i (some (.val d))) w (σ.set i (some v)) H :=
  st.store i (fun sv e => by cases e; exact ⟨v, rfl, r⟩) fun _ _ e => by cases e
def wipeP (ρ : Sl) : List Nat → Sl
  | [] => ρ
  | v :: vs => (wipeP ρ vs).set v none
theorem StOk.wipe (st : StOk C ρ w σ H) : ∀ vs : List Nat, StOk C (wipeP ρ vs) w (L2.wipe σ vs) H
  | [] => st
  | v :: vs => (StOk.wipe st vs).store v (fun _ e => by cases e) fun _ _ e => by cases e
theorem wipe_get {σ : St} {i : Nat} : ∀ {vs : List Nat}, (L2.wipe σ vs)[i]? = if i ∈ vs ∧ i < σ.length then some none else σ[i]?
  | [] => by simp [L2.wipe]
  | v :: vs => by
    unfold L2.wipe
    by_cases e : v = i
    · subst e
      by_cases hl : v < σ.length
      · rw [List.getElem?_set_self (by rw [wipe_length]; exact hl)]; simp [hl]
      · rw [List.getElem?_eq_none (by simp [wipe_length]; omega)]; simp [hl]
    · rw [List.getElem?_set_ne e, wipe_get]
      have : i ≠ v := Ne.symm e
      simp [this]
theorem wipe_touch {σ σ' : St} {js vs : List Nat} (t : Touch js σ σ') (s : ∀ j ∈ js, j ∈ vs) : L2.wipe σ' vs = L2.wipe σ vs := by
  apply List.ext_getElem?
  intro i
  rw [wipe_get, wipe_get, t.1]
  by_cases h : i ∈ vs
  · by_cases hl : i < σ.length
    · simp [h, hl]
    · simp only [hl, and_false, if_false]
      rw [List.getElem?_eq_none (by rw [t.1]; omega), List.getElem?_eq_none (by omega)]
  · simp only [h, false_and, if_false]
    exact t.2 i fun q => h (s i q)
theorem wipe_wipe {σ : St} {vs : List Nat} : L2.wipe (L2.wipe σ vs) vs = L2.wipe σ vs := by
  apply List.ext_getElem?
  intro i
  rw [wipe_get, wipe_get, wipe_length]
  by_cases h : i ∈ vs ∧ i < σ.length <;> simp [h]
end
section
variable {X : Cx} {C : Cc} {pos : Pos}
theorem g_name (xc : Xc X C) (j : Nat) {x : Str} (hi : X.N[j]? = some x := by rfl) (hx : Loc X.env.scope x := by first | exact Or.inl rfl | exact Or.inr rfl) (hf : X.fn x = true ∨ X.env.scope.names.lookup x = some .local := by first | exact .inl rfl | exact .inr rfl | assumption) : PG X (.Name x pos) (semG C [j] (gN j)) :=
  (pg_name xc.nd hi hx hf).imp fun v σ H Q ⟨d, ρ, w, k, st, r, h, kk⟩ => kk _ _ (st.val j r) ⟨by rw [List.length_set], fun i n => by rw [List.getElem?_set_ne]; simpa [eq_comm] using n⟩ h
theorem g_nil : PGs X [] (semGs C [] gs0) := pgs_nil.imp fun vs σ H Q ⟨ds, ρ, w, k, st, r, h, kk⟩ => by
  unfold gs0 at h
  cases ds with
  | nil => exact ⟨by simpa [RepAll] using r, kk ρ σ st (Touch.refl _ _) h⟩
  | cons _ _ => exact h.elim
theorem g_cons {e : Expr} {es : List Expr} {js ks : List Nat} {φ : WG} {ψ : WGs} (h1 : PG X e (semG C js φ)) (h2 : PGs X es (semGs C ks ψ))
    (hs : (assignEach (e :: es) X.env).map (·.2) = assign e X.env :: (assignEach es X.env).map (·.2) := by rfl) : PGs X (e :: es) (semGs C (js ++ ks) (gsC φ ψ)) :=
  (pgs_cons h1 h2 hs).imp fun vs σ H Q ⟨ds, ρ, w, k, st, r, h, kk⟩ => by
    unfold gsC at h
    cases ds with
    | nil => exact h.elim
    | cons d ds =>
      simp only [RepAll] at r
      obtain ⟨v, r', rfl, r1, r2⟩ := r
      refine ⟨v, r', rfl, d, ρ, w, _, st, r1, h, fun ρ1 σ1 st1 t1 h2 => ⟨ds, ρ1, w, _, st1, r2, h2, fun ρ2 σ2 st2 t2 h3 => ?_⟩⟩
      exact kk ρ2 σ2 st2 ((t1.mono fun j q => List.mem_append_left _ q).trans (t2.mono fun j q => List.mem_append_right _ q)) h3
theorem g_tup (xc : Xc X C) {es : List Expr} {k n : Nat} {js : List Nat} {ψ : WGs} (h : PGs X es (semGs C js ψ))
    (hn : (assignEach es X.env).length = n := by rfl) (hst : (assignEach es X.env).findIdx? (·.1) = none := by rfl) : PG X (.Tuple es k pos) (semG C js (gT n ψ)) :=
  (pg_tup xc.calm h hn hst).imp fun v σ H Q ⟨d, ρ, w, k, st, r, h, kk⟩ => by
    unfold gT at h
    cases d with
    | tuple ds =>
      simp only [Rep] at r
      obtain ⟨a, vs, e, h1, r1⟩ := r
      exact ⟨a, vs, e, by rw [xc.hK]; exact st.sub.sqT h1, by rw [r1.length]; exact h.1, ds, ρ, w, k, st, r1, h.2, kk⟩
    | _ => exact h.elim
end
end PL

set_option Elab.async false
set_option linter.all false
set_option maxRecDepth 100000
set_option maxHeartbeats 4000000
namespace PL
open PySem L2 RZ
/-! ### what is walked -/
structure JOk (K : PySem.W.Frag) (w : Wd) (J : It) (items : List D) : Prop where
  goes : ∀ i H, i < items.length → Sub w.W H → J.go i H
  stops : ∀ H, Sub w.W H → J.stop items.length H
  yields : ∀ i H x H', i < items.length → Sub w.W H → J.yld i H x H' → (H' = H ∧ ∃ d, items[i]? = some d ∧ Rep K w.W d x) ∨
    (∃ (T : Addr) (vs : List V) (ds : List D), x = .ref T ∧ H T = none ∧ H' = upd H T (.tup vs) ∧ items[i]? = some (.tuple ds) ∧ RepAll K w.W ds vs)
abbrev WI := Sl → (List D → Sl → Prop) → Prop
def semI (C : Cc) (φ : WI) : TI := fun σ H R => ∃ ρ w Q', StOk C ρ w σ H ∧ φ ρ Q' ∧ ∀ items ρ' w' J H', Post C ρ w σ H ρ' w' H' → JOk C.K w' J items → Q' items ρ' → R J H'
abbrev SimI (X : Cx) (C : Cc) (tg it : Expr) (φ : WI) : Prop := PI X tg it (semI C φ)
theorem _root_.L2.PI.imp {X : Cx} {tg e : Expr} {t t' : TI} (h : PI X tg e t) (i : ∀ σ H Q, t' σ H Q → t σ H Q) : PI X tg e t' := ⟨fun pins s σ H R I q => h.run pins s σ H R I (i σ H R q)⟩
def seqD : D → Option (List D)
  | .list ds => some ds
  | .tuple ds => some ds
  | _ => none
def wSeqI (a : WE) : WI := fun ρ Q => a ρ fun r ρ1 => nb r ∧ ∃ ds, seqD r.d = some ds ∧ Q ds ρ1
def rangeD (lo : Int) (n : Nat) : List D := (List.range n).map fun (i : Nat) => PyData.int (lo + i)
theorem rangeD_length (lo : Int) (n : Nat) : (rangeD lo n).length = n := by simp [rangeD]
def wRng1 (a : WE) : WI := fun ρ Q => a ρ fun r ρ1 => ∃ n, r.d = .int n ∧ -(2 ^ 62) ≤ n ∧ n < 2 ^ 62 ∧ Q (rangeD 0 n.toNat) ρ1
def wRng2 (a b : WE) : WI := fun ρ Q => a ρ fun r ρ1 => b ρ1 fun r' ρ2 => ∃ m n, r.d = .int m ∧ r'.d = .int n ∧ (-(2 ^ 62) ≤ m ∧ m < 2 ^ 62 ∧ -(2 ^ 62) ≤ n ∧ n < 2 ^ 62) ∧ Q (rangeD m (n - m).toNat) ρ2
def pairD (xs ys : List D) : List D := (xs.zip ys).map fun p => PyData.tuple [p.1, p.2]
def wZip (a b : WE) : WI := fun ρ Q => a ρ fun r ρ1 => nb r ∧ b ρ1 fun r' ρ2 => nb r' ∧
  ((∃ xs ys, r.d = .list xs ∧ r'.d = .list ys ∧ Q (pairD xs ys) ρ2) ∨ (∃ xs ys, r.d = .tuple xs ∧ r'.d = .tuple ys ∧ Q (pairD xs ys) ρ2))
section
variable {K : PySem.W.Frag} {w : Wd} {a b : Addr} {vs us : List V} {ds es : List D}
theorem jok_list (h : w.W a = some (.lst vs)) (r : RepAll K w.W ds vs) : JOk K w (Itl K a) ds := by
  have hl := r.length
  refine ⟨fun i H hi s => ⟨vs, vs[i]'(by omega), SqL.of (s _ _ h), by simp⟩, fun H s => ⟨vs, SqL.of (s _ _ h), by omega⟩, fun i H x H' hi s y => .inl ⟨y.1, ?_⟩⟩
  exact r.getV (y.2 vs (SqL.of (s _ _ h)))
theorem jok_tup (h : SqT K w.W a vs) (r : RepAll K w.W ds vs) : JOk K w (Itt K a) ds := by
  have hl := r.length
  refine ⟨fun i H hi s => ⟨vs, vs[i]'(by omega), s.sqT h, by simp⟩, fun H s => ⟨vs, s.sqT h, by omega⟩, fun i H x H' hi s y => .inl ⟨y.1, ?_⟩⟩
  exact r.getV (y.2 vs (s.sqT h))
theorem jok_range (lo : Int) (n : Nat) : JOk K w (Itr lo n) (rangeD lo n) := by
  refine ⟨fun i H hi s => by rw [rangeD_length] at hi; exact hi, fun H s => by rw [rangeD_length]; exact Nat.le_refl n, fun i H x H' hi s y => .inl ⟨y.1, .int (lo + i), ?_, ?_⟩⟩
  · rw [rangeD_length] at hi
    simp [rangeD, hi]
  · simp only [Rep]; exact y.2
theorem pairD_length (xs ys : List D) : (pairD xs ys).length = min xs.length ys.length := by simp [pairD]
theorem pairD_get {xs ys : List D} {i : Nat} {x y : D} (h : xs[i]? = some x) (g : ys[i]? = some y) : (pairD xs ys)[i]? = some (.tuple [x, y]) := by
  simp [pairD, List.getElem?_zip_eq_some, List.zip, List.getElem?_zipWith, h, g]
theorem jok_zip (ha : w.W a = some (.lst vs)) (hb : w.W b = some (.lst us)) (r : RepAll K w.W ds vs) (q : RepAll K w.W es us) : JOk K w (Itz K a b) (pairD ds es) := by
  have h1 := r.length
  have h2 := q.length
  refine ⟨fun i H hi s => ?_, fun H s => ⟨vs, us, SqL.of (s _ _ ha), SqL.of (s _ _ hb), ?_⟩, fun i H x H' hi s y => ?_⟩
  · rw [pairD_length] at hi
    exact ⟨vs, us, vs[i]'(by omega), us[i]'(by omega), SqL.of (s _ _ ha), SqL.of (s _ _ hb), by simp, by simp⟩
  · rw [pairD_length]; omega
  · obtain ⟨T, x1, x2, e1, e2, e3, e4, e5⟩ := y
    obtain ⟨d1, g1, p1⟩ := r.getV (e4 vs (SqL.of (s _ _ ha)))
    obtain ⟨d2, g2, p2⟩ := q.getV (e5 us (SqL.of (s _ _ hb)))
    exact .inr ⟨T, [x1, x2], [d1, d2], e1, e2, e3, pairD_get g1 g2, RepAll.cons p1 (RepAll.cons p2 RepAll.nil)⟩
theorem jok_zipT (ha : SqT K w.W a vs) (hb : SqT K w.W b us) (r : RepAll K w.W ds vs) (q : RepAll K w.W es us) : JOk K w (ItzT K a b) (pairD ds es) := by
  have h1 := r.length
  have h2 := q.length
  refine ⟨fun i H hi s => ?_, fun H s => ⟨vs, us, s.sqT ha, s.sqT hb, ?_⟩, fun i H x H' hi s y => ?_⟩
  · rw [pairD_length] at hi
    exact ⟨vs, us, vs[i]'(by omega), us[i]'(by omega), s.sqT ha, s.sqT hb, by simp, by simp⟩
  · rw [pairD_length]; omega
  · obtain ⟨T, x1, x2, e1, e2, e3, e4, e5⟩ := y
    obtain ⟨d1, g1, p1⟩ := r.getV (e4 vs (s.sqT ha))
    obtain ⟨d2, g2, p2⟩ := q.getV (e5 us (s.sqT hb))
    exact .inr ⟨T, [x1, x2], [d1, d2], e1, e2, e3, pairD_get g1 g2, RepAll.cons p1 (RepAll.cons p2 RepAll.nil)⟩
end
section
variable {X : Cx} {C : Cc} {tg e e2 : Expr} {φ φ2 : WE} {p pos : Pos}
/-- a list or a tuple, walked -/
theorem pi_seq {tl : TE} (hl : PE X e tl) : PI X tg e (fun σ H R => tl σ H fun x H1 => ∃ a, x = .ref a ∧ ((∃ xs, SqL X.K H1 a xs) ∧ R (Itl X.K a) H1 ∨ (∃ xs, SqT X.K H1 a xs) ∧ R (Itt X.K a) H1)) := by
  refine ⟨fun pins s σ H R I h => ?_⟩
  refine thn (hl.run pins s σ H _ I h) fun v s1 ⟨x, H1, I1, r1, q1⟩ => ?_
  obtain ⟨a, rfl, ⟨⟨xs, hq⟩, q⟩ | ⟨⟨xs, hq⟩, q⟩⟩ := q1
  · cases r1
    obtain ⟨its, rv, p, hz⟩ := I1.list hq
    refine wpAny_pyIter_list p.isList ?_
    refine ⟨s1.heap.objs.size, [s1.heap.objs.size], _, _, H1, rfl, I1.kept (t' := s1.toks) fun b o e => Heap.get?_push_of_some _ e, turn_list a _, ⟨_, Heap.get?_push_size _ rfl, rfl, rfl⟩, fun b hb => ?_, q⟩
    have e : b = s1.heap.objs.size := by simpa using hb
    subst e
    exact I1.fpOk (Nat.le_refl _) (I1.hok.fresh (Nat.le_refl _))
  · cases r1
    obtain ⟨its, rv, p, hz⟩ := I1.tuple hq
    refine wpAny_pyIter_tuple (show s1.heap.IsTuple a its.toArray from p) ?_
    refine ⟨s1.heap.objs.size, [s1.heap.objs.size], _, _, H1, rfl, I1.kept (t' := s1.toks) fun b o e => Heap.get?_push_of_some _ e, turn_tuple a _, ⟨_, Heap.get?_push_size _ rfl, rfl, rfl⟩, fun b hb => ?_, q⟩
    have e : b = s1.heap.objs.size := by simpa using hb
    subst e
    exact I1.fpOk (Nat.le_refl _) (I1.hok.fresh (Nat.le_refl _))
theorem i_seq (xc : Xc X C) (ha : SimE X C e φ) : SimI X C tg e (wSeqI φ) :=
  (pi_seq ha).imp fun σ H R ⟨ρ, w, Q', st, h, k⟩ => by
    refine ⟨ρ, w, _, st, h, fun r ρ1 w1 x H1 P1 R1 F1 ⟨n, ds, e, q⟩ => ?_⟩
    obtain ⟨w2, P2, hr⟩ := P1.cap st R1 F1 n.ne
    revert e hr
    generalize r.d = d
    intro e hr
    cases d <;> simp only [seqD] at e <;> first | (cases e; done) | skip
    · cases e
      simp only [Rep] at hr
      obtain ⟨a, vs, rfl, h1, r1⟩ := hr
      exact ⟨a, rfl, .inl ⟨⟨vs, SqL.of (P2.st.sub _ _ h1)⟩, by rw [xc.hK]; exact k ds ρ1 w2 _ H1 P2 (jok_list h1 r1) q⟩⟩
    · cases e
      simp only [Rep] at hr
      obtain ⟨a, vs, rfl, h1, r1⟩ := hr
      exact ⟨a, rfl, .inr ⟨⟨vs, by rw [xc.hK]; exact P2.st.sub.sqT h1⟩, by rw [xc.hK]; exact k ds ρ1 w2 _ H1 P2 (jok_tup h1 r1) q⟩⟩
theorem i_rng1 (hg : Gl X "range") (hm : X.mg "range" = none) (ha : SimE X C e φ) (hs : starEach [e] X.env = [(false, eval e X.env)] := by rfl) : SimI X C tg (.Call (.Name "range" p) [e] [] pos) (wRng1 φ) :=
  (pi_range1 hg hm (pa_cons ha pa_nil hs) hs).imp fun σ H R ⟨ρ, w, Q', st, h, k⟩ => by
    refine ⟨ρ, w, _, st, h, fun r ρ1 w1 x H1 P1 R1 F1 ⟨n, e, h1, h2, q⟩ => ?_⟩
    have c := R1.cont
    rw [e] at c
    exact ⟨n, by rw [c.int], h1, h2, k _ ρ1 w1 _ H1 P1 (jok_range 0 _) q⟩
theorem i_rng2 (hg : Gl X "range") (hm : X.mg "range" = none) (ha : SimE X C e φ) (hb : SimE X C e2 φ2) (hs : starEach [e, e2] X.env = [(false, eval e X.env), (false, eval e2 X.env)] := by rfl) (hs2 : starEach [e2] X.env = [(false, eval e2 X.env)] := by rfl)
    (hs3 : starEach [e, e2] X.env = (false, eval e X.env) :: starEach [e2] X.env := by rfl) : SimI X C tg (.Call (.Name "range" p) [e, e2] [] pos) (wRng2 φ φ2) :=
  (pi_range2 hg hm (pa_cons ha (pa_cons hb pa_nil hs2) hs3) hs hs2).imp fun σ H R ⟨ρ, w, Q', st, h, k⟩ => by
    refine ⟨ρ, w, _, st, h, fun r ρ1 w1 x H1 P1 R1 F1 h1 => ⟨ρ1, w1, _, P1.st, h1, fun r' ρ2 w2 y H2 P2 R2 F2 ⟨m, n, e1, e2, h2, q⟩ => ?_⟩⟩
    have c1 := R1.cont.post P2
    have c2 := R2.cont
    rw [e1] at c1
    rw [e2] at c2
    exact ⟨m, n, by rw [c1.int, c2.int], h2, k _ ρ2 w2 _ H2 (P1.trans st P2) (jok_range m _) q⟩
theorem i_zip (xc : Xc X C) {elts : List Expr} {kk : Nat} {tpos : Pos} (hg : Gl X "zip") (hm : X.mg "zip" = none) (ha : SimE X C e φ) (hb : SimE X C e2 φ2)
    (hs : starEach [e, e2] X.env = (false, eval e X.env) :: starEach [e2] X.env := by rfl) (hs2 : starEach [e2] X.env = (false, eval e2 X.env) :: starEach [] X.env := by rfl) (hpl : (backTo pos (starEach [e2] X.env)).any (·.1) = false := by rfl) :
    SimI X C (.Tuple elts kk tpos) (.Call (.Name "zip" p) [e, e2] [] pos) (wZip φ φ2) :=
  (pi_zipA hg hm (pa_cons ha (pa_cons hb pa_nil hs2) hs) hs hpl).imp fun σ H R ⟨ρ, w, Q', st, h, k⟩ => by
    refine ⟨ρ, w, _, st, h, fun r ρ1 w1 x H1 P1 R1 F1 ⟨n1, h1⟩ => ?_⟩
    obtain ⟨w1', P1', hr1⟩ := P1.cap st R1 F1 n1.ne
    refine ⟨ρ1, w1', _, P1'.st, h1, fun r' ρ2 w2 y H2 P2 R2 F2 ⟨n2, h2⟩ => ?_⟩
    obtain ⟨w2', P2', hr2⟩ := P2.cap P1'.st R2 F2 n2.ne
    have hr1' := Rep.mono P2'.ext _ hr1
    have P := P1'.trans st P2'
    rcases h2 with ⟨xs, ys, e1, e2, q⟩ | ⟨xs, ys, e1, e2, q⟩
    · rw [e1] at hr1'
      rw [e2] at hr2
      simp only [Rep] at hr1' hr2
      obtain ⟨a, vs, rfl, a1, a2⟩ := hr1'
      obtain ⟨b, us, rfl, b1, b2⟩ := hr2
      refine ⟨a, b, vs, us, rfl, .inl ⟨SqL.of (P.st.sub _ _ a1), SqL.of (P.st.sub _ _ b1), ?_⟩⟩
      rw [xc.hK]
      exact k _ ρ2 w2' _ H2 P (jok_zip a1 b1 a2 b2) q
    · rw [e1] at hr1'
      rw [e2] at hr2
      simp only [Rep] at hr1' hr2
      obtain ⟨a, vs, rfl, a1, a2⟩ := hr1'
      obtain ⟨b, us, rfl, b1, b2⟩ := hr2
      refine ⟨a, b, vs, us, rfl, .inr ⟨by rw [xc.hK]; exact P.st.sub.sqT a1, by rw [xc.hK]; exact P.st.sub.sqT b1, ?_⟩⟩
      rw [xc.hK]
      exact k _ ρ2 w2' _ H2 P (jok_zipT a1 b1 a2 b2) q
end

/-! ### comprehensions -/
def compL (tg : WG) (c : WT) (e : WE) (ρ0 : Sl) : List D → List D → (List D → Prop) → Prop
  | [], acc, Q => Q acc
  | d :: ds, acc, Q => tg d ρ0 fun ρ2 => c ρ2 fun b ρ3 => ρ3 = ρ2 ∧ if b = true then e ρ2 fun r ρ4 => ρ4 = ρ2 ∧ nb r ∧ compL tg c e ρ0 ds (acc ++ [r.d]) Q else compL tg c e ρ0 ds acc Q
def wYes : WT := fun ρ Q => Q true ρ
def wComp (vs : List Nat) (it : WI) (tg : WG) (c : WT) (e : WE) : WE := fun ρ Q => it ρ fun items ρ1 => items.length ≤ 16777216 ∧ compL tg c e (wipeP ρ1 vs) items [] fun acc => Q (.fr (.list acc)) ρ1
section
variable {C : Cc} {ρ ρ' ρ2 : Sl} {w w' w3 w4 : Wd} {σ σ2 : St} {H H' H3 H4 : Hp} {p : Addr} {o : HO}
/-- a thing under way changes -/
theorem Post.temp (P : Post C ρ w σ H ρ' w' H') (st : StOk C ρ w σ H) (hp : H p = none) (hw : w'.W p = none) : Post C ρ w σ H ρ' w' (upd H' p o) := by
  have S := P.st
  have hc : w'.pc ≠ some p := by rw [P.pc]; exact st.noPc hp
  have hs : ¬ OwnSl ρ' σ p := fun q => st.noSl hp (P.own p q)
  refine ⟨⟨fun a u q => ?_, fun a q => ?_, fun i sv q => ?_, S.dist, fun a u q n => ?_, S.new, S.ext, S.pce, S.len⟩, P.ext, P.pc, fun a u q n => ?_, P.new, P.own⟩
  · rw [upd_ne (ne_of_none q hw)]; exact S.sub a u q
  · obtain ⟨h1, x, y, h2, h3, h4⟩ := S.cup a q
    exact ⟨h1, x, y, h2, h3, by rw [upd_ne (fun e => by rw [e] at q; exact hc q)]; exact h4⟩
  · obtain ⟨v, h1, h2⟩ := S.sl i sv q
    refine ⟨v, h1, ?_⟩
    cases sv with
    | val d => exact h2
    | own d =>
      obtain ⟨p2, e, a1, a2, a3, a4⟩ := h2
      subst e
      refine ⟨p2, rfl, a1, a2, a3, OwnAt.keep a4 (Sub.refl _) fun u z => ?_⟩
      rw [upd_ne (fun e => hs ⟨i, d, q, by rw [h1, e]⟩)]; exact z
    | cup => exact h2
    | scr ns => exact h2
  · rw [upd_ne (ne_of_none q (st.h0 hp))]; exact S.old a u q n
  · rw [upd_ne (ne_of_none q hp)]; exact P.frm a u q n
/-- what an inner evaluation leaves of the outer state -/
theorem Post.outer (st : StOk C ρ w σ H) (P : Post C ρ w σ H ρ w3 H3) (P4 : Post C ρ2 w3 σ2 H3 ρ2 w4 H4) : Post C ρ w σ H ρ w4 H4 := by
  refine P.trans st (P.st.carry P4.st.sub P4.st.cup P4.ext P4.pc P4.frm fun a o q => ?_)
  rcases P4.new a o q with h | h | ⟨i, d, h1, h2⟩
  · exact .inl h
  · exact .inr h
  · obtain ⟨v, h3, p, e, _, h4, _⟩ := P4.st.sl i _ h1
    rw [h2] at h3; cases h3
    cases e
    rw [q] at h4; cases h4
theorem Post.keepT (P4 : Post C ρ2 w3 σ2 H3 ρ2 w4 H4) {vs : List V} (h : H3 p = some o) (hw : w3.W p = none) (hc : w3.pc ≠ some p) : H4 p = some o ∧ w4.W p = none := by
  refine ⟨P4.frm p _ h hc, ?_⟩
  cases q : w4.W p with
  | none => rfl
  | some u =>
    rcases P4.new p u q with z | z | ⟨i, d, h1, h2⟩
    · rw [hw] at z; cases z
    · rw [h] at z; cases z
    · obtain ⟨v, h3, p', e, _, h4, _⟩ := P4.st.sl i _ h1
      rw [h2] at h3; cases h3
      cases e
      rw [q] at h4; cases h4
theorem sem_comp {vs js : List Nat} {it : WI} {tg : WG} {c : WT} {e : WE} (hj : ∀ j ∈ js, j ∈ vs) {Q : VK} (h : semE C (wComp vs it tg c e) σ H Q) : tLc (semI C it) (semG C js tg) (semT C c) (semE C e) vs σ H Q := by
  obtain ⟨ρ, w, Q', st, h, k⟩ := h
  refine ⟨ρ, w, _, st, h, fun items ρ1 w1 J H1 P1 jok ⟨hl, hc⟩ Da hD => ?_⟩
  have hDc : w1.pc ≠ some Da := P1.st.noPc hD
  refine ⟨fun i m H' => m = items.length - i ∧ i ≤ items.length ∧ ∃ w2 acc va, Post C ρ1 w1 σ H1 ρ1 w2 H' ∧ H' Da = some (.lst va) ∧ RepAll C.K w2.W acc va ∧ acc.length ≤ i ∧ w2.W Da = none ∧
    compL tg c e (wipeP ρ1 vs) (items.drop i) acc fun acc => Q' (.fr (.list acc)) ρ1, ⟨_, rfl, Nat.zero_le _, w1, [], [], P1.st.lay hD, upd_same, RepAll.nil, Nat.zero_le _, P1.st.noW hD, hc⟩, ?_⟩
  rintro i m H' ⟨rfl, hi, w2, acc, va, P, hDa, hacc, hal, hDw, hcl⟩
  by_cases hlt : i < items.length
  · refine .inr ⟨jok.goes i H' hlt (P.ext.trans P.st.sub), fun H'' => ∃ w2 acc va, Post C ρ1 w1 σ H1 ρ1 w2 H'' ∧ H'' Da = some (.lst va) ∧ RepAll C.K w2.W acc va ∧ acc.length ≤ i + 1 ∧ w2.W Da = none ∧
      compL tg c e (wipeP ρ1 vs) (items.drop (i + 1)) acc (fun acc => Q' (.fr (.list acc)) ρ1), fun H'' h => ⟨_, (by omega : items.length - (i + 1) < items.length - i), rfl, hlt, h⟩, fun x H'' y => ?_⟩
    have hdrop : items.drop i = items[i] :: items.drop (i + 1) := List.drop_eq_getElem_cons hlt
    rw [hdrop] at hcl
    -- what is yielded
    obtain ⟨w3, P3, hx, hDa3, hDw3, hacc3⟩ : ∃ w3, Post C ρ1 w1 σ H1 ρ1 w3 H'' ∧ Rep C.K w3.W items[i] x ∧ H'' Da = some (.lst va) ∧ w3.W Da = none ∧ RepAll C.K w3.W acc va := by
      rcases jok.yields i H' x H'' hlt (P.ext.trans P.st.sub) y with ⟨rfl, d, e1, e2⟩ | ⟨T, us, ds, rfl, e1, rfl, e2, e3⟩
      · rw [List.getElem?_eq_getElem hlt] at e1
        cases e1
        exact ⟨w2, P, Rep.mono P.ext _ e2, hDa, hDw, hacc⟩
      · rw [List.getElem?_eq_getElem hlt] at e2
        have e2' := Option.some.inj e2
        have L := P.st.layW (o := .tup us) e1 (P.st.h0 e1)
        refine ⟨_, P.trans P1.st L, ?_, L.frm Da _ hDa (by rw [P.pc]; exact hDc), ?_, RepAll.mono L.ext _ hacc⟩
        · rw [e2']
          simp only [Rep]
          exact ⟨T, us, rfl, SqT.of upd_same, RepAll.mono (P.ext.trans L.ext) _ e3⟩
        · show upd w2.W T (.tup us) Da = none
          rw [upd_ne (ne_of_none hDa e1)]; exact hDw
    refine ⟨items[i], wipeP ρ1 vs, w3, _, P3.st.wipe vs, hx, hcl, fun ρ2 σ2 st2 tch k2 => ⟨(wipe_touch tch hj).trans wipe_wipe, ρ2, w3, _, st2, k2, fun b ρ3 w4 H4 P4 ⟨e1, q⟩ => ?_⟩⟩
    subst e1
    have O4 := Post.outer P1.st P3 P4
    obtain ⟨hDa4, hDw4⟩ := P4.keepT (vs := va) hDa3 hDw3 (by rw [P3.pc]; exact hDc)
    have hacc4 := RepAll.mono P4.ext _ hacc3
    cases b with
    | false => exact ⟨w4, acc, va, O4, hDa4, hacc4, by omega, hDw4, by simpa using q⟩
    | true =>
      rw [if_pos rfl] at q ⊢
      refine ⟨ρ3, w4, _, P4.st, q, fun r ρ4 w5 y H5 P5 R5 F5 ⟨e2, n, q2⟩ => ?_⟩
      subst e2
      obtain ⟨w6, P6, hr⟩ := P5.cap P4.st R5 F5 n.ne
      have O6 := Post.outer P1.st O4 P6
      obtain ⟨hDa6, hDw6⟩ := P6.keepT (vs := va) hDa4 hDw4 (by rw [P4.pc, P3.pc]; exact hDc)
      have hacc6 := RepAll.mono P6.ext _ hacc4
      refine ⟨va, hDa6, by rw [hacc6.length, sl16]; omega, w6, acc ++ [r.d], va ++ [y], O6.temp P1.st hD hDw6, upd_same, hacc6.append (RepAll.cons hr RepAll.nil), ?_, hDw6, q2⟩
      rw [List.length_append, List.length_singleton]; omega
  · have e : i = items.length := by omega
    subst e
    rw [List.drop_length] at hcl
    refine .inl ⟨jok.stops H' (P.ext.trans P.st.sub), k (.fr (.list acc)) ρ1 w2 _ H' (P1.trans st P) ⟨Da, rfl, P1.st.h0 hD, hDw, by rw [P.pc]; exact hDc, fun q => P1.st.noSl hD (P.own Da q), va, hDa, hacc⟩ (fun q e => ?_) hcl⟩
    cases e
    exact .inl (P1.back st hD)
end
/-- a comprehension's block keeps the context -/
theorem Xc.blk {X : Cx} {C : Cc} (xc : Xc X C) (s : Shared) (H : Hp) (scope : Scope) (cenv : Env) (fp : List Addr) : Xc (X.blk s H scope cenv fp) C := ⟨xc.hK, xc.calm, xc.nd, xc.un⟩
abbrev SimTs (X : Cx) (C : Cc) (ifs : List Expr) (φ : WT) : Prop := PTs X ifs (semT C φ)
theorem _root_.L2.PTs.imp {X : Cx} {e : List Expr} {t t' : TT} (h : PTs X e t) (i : ∀ σ H Q, t' σ H Q → t σ H Q) : PTs X e t' := ⟨fun pins s σ H Q I q => h.run pins s σ H Q I (i σ H Q q)⟩
section
variable {X : Cx} {C : Cc} {pos : Pos}
theorem c_nil : SimTs X C [] wYes := pts_nil.imp fun σ H Q ⟨ρ, w, Q', st, h, k⟩ => k true ρ w H (Post.refl st) h
theorem c_one {c : Expr} {φ : WT} (h : SimT X C c φ) : SimTs X C [c] φ := pts_one h
/-- the block's derivations, all at once -/
theorem s_comp (xc : Xc X C) {elt tg iter : Expr} {ifs : List Expr} {scope : Scope} {own : List (Str × Nat)} {js : List Nat} {it : WI} {g : WG} {c : WT} {e : WE}
    (hi : SimI X C tg iter it) (ok : BlkOk X.N X.env.scope scope own) (hj : ∀ j ∈ js, j ∈ own.map (·.2))
    (hg : ∀ (s : Shared) (H : Hp) (Ca : Addr) (cl : List (Str × Addr)) (fp : List Addr), PG (X.blk s H scope (compEnvC scope cl Ca X.env) fp) tg (semG C js g))
    (ht : ∀ (s : Shared) (H : Hp) (Ca : Addr) (cl : List (Str × Addr)) (fp : List Addr), SimTs (X.blk s H scope (compEnvC scope cl Ca X.env) fp) C ifs c)
    (he : ∀ (s : Shared) (H : Hp) (Ca : Addr) (cl : List (Str × Addr)) (fp : List Addr), SimE (X.blk s H scope (compEnvC scope cl Ca X.env) fp) C elt e)
    (hs : ∀ x, foldedSetIterable iter X.env x = pure x := by intro _; rfl) : SimE X C (.ListComp elt [⟨tg, iter, ifs, 0⟩] scope pos) (wComp (own.map (·.2)) it g c e) :=
  (pe_lc xc.calm xc.nd hi ok hg ht he hs).imp fun _ _ _ h => sem_comp hj h
end
end PL

set_option Elab.async false
set_option linter.all false
set_option maxRecDepth 100000
set_option maxHeartbeats 4000000
namespace PL
open PySem L2
/-! ### statements -/
def Wle (w w' : Wd) : Prop := Sub w.W w'.W ∧ ∀ p, w.pc = some p → w'.pc = some p
theorem Wle.refl (w : Wd) : Wle w w := ⟨Sub.refl _, fun _ h => h⟩
theorem Wle.trans {a b c : Wd} (h : Wle a b) (g : Wle b c) : Wle a c := ⟨h.1.trans g.1, fun p q => g.2 p (h.2 p q)⟩
theorem Post.wle {C : Cc} {ρ ρ' : Sl} {w w' : Wd} {σ : St} {H H' : Hp} (P : Post C ρ w σ H ρ' w' H') : Wle w w' := ⟨P.ext, fun p h => by rw [P.pc]; exact h⟩
structure EndsOk (C : Cc) (w : Wd) (D' : PEnds) (D : Ends) : Prop where
  nx : ∀ ρ' w' σ' H', Wle w w' → StOk C ρ' w' σ' H' → D'.nx ρ' → D.nx σ' H'
  rt : ∀ r ρ' w' σ' H' v, Wle w w' → StOk C ρ' w' σ' H' → RepR C ρ' w' σ' H' v r → nb r → D'.rt r → D.rt v H'
  bk : ∀ ρ' w' σ' H', Wle w w' → StOk C ρ' w' σ' H' → D'.bk ρ' → D.bk σ' H'
  ct : ∀ ρ' w' σ' H', Wle w w' → StOk C ρ' w' σ' H' → D'.ct ρ' → D.ct σ' H'
theorem EndsOk.mono {C : Cc} {w w' : Wd} {D' : PEnds} {D : Ends} (h : EndsOk C w D' D) (l : Wle w w') : EndsOk C w' D' D :=
  ⟨fun ρ' w2 σ' H' l2 => h.nx ρ' w2 σ' H' (l.trans l2), fun r ρ' w2 σ' H' v l2 => h.rt r ρ' w2 σ' H' v (l.trans l2), fun ρ' w2 σ' H' l2 => h.bk ρ' w2 σ' H' (l.trans l2), fun ρ' w2 σ' H' l2 => h.ct ρ' w2 σ' H' (l.trans l2)⟩
def semS (C : Cc) (φ : WS) : TS := fun D σ H => ∃ ρ w D', StOk C ρ w σ H ∧ φ D' ρ ∧ EndsOk C w D' D
abbrev SimS (X : Cx) (C : Cc) (st : Stmt) (φ : WS) : Prop := L2.PS X st (semS C φ)
abbrev SimB (X : Cx) (C : Cc) (sts : List Stmt) (φ : WS) : Prop := PSs X sts (semS C φ)
theorem _root_.L2.PS.imp {X : Cx} {e : Stmt} {t t' : TS} (h : L2.PS X e t) (i : ∀ D σ H, t' D σ H → t D σ H) : L2.PS X e t' := ⟨fun pins s σ H D I q => h.run pins s σ H D I (i D σ H q)⟩
theorem _root_.L2.PSs.imp {X : Cx} {e : List Stmt} {t t' : TS} (h : PSs X e t) (i : ∀ D σ H, t' D σ H → t D σ H) : PSs X e t' := ⟨fun pins s σ H D I q => h.run pins s σ H D I (i D σ H q)⟩

def wSkip : WS := fun D ρ => D.nx ρ
def wSeq (a b : WS) : WS := fun D ρ => a { D with nx := b D } ρ
def svOf (own : Bool) : Res → SV
  | .fr d => if own then .own d else .val d
  | .im d => .val d
  | .bo d => .val d
def wSet (i : Nat) (own : Bool) (a : WE) : WS := fun D ρ => a ρ fun r ρ1 => nb r ∧ D.nx (ρ1.set i (some (svOf own r)))
def wPar (i j : Nat) (oi oj : Bool) (a b : WE) : WS := fun D ρ => a ρ fun r ρ1 => nb r ∧ b ρ1 fun r' ρ2 => nb r' ∧ D.nx ((ρ2.set i (some (svOf oi r))).set j (some (svOf oj r')))
def wAsg (a : WE) (g : WG) : WS := fun D ρ => a ρ fun r ρ1 => nb r ∧ g r.d ρ1 D.nx
def wRet (a : WE) : WS := fun D ρ => a ρ fun r ρ1 => nb r ∧ D.rt r
def wRetN : WS := fun D ρ => D.rt (.im .none)
def wExp (a : WE) : WS := fun D ρ => a ρ fun _ ρ1 => D.nx ρ1
def wIfS (t : WT) (a b : WS) : WS := fun D ρ => t ρ fun k ρ1 => if k = true then a D ρ1 else b D ρ1
def wNever : WS := fun _ _ => False
def wBrk : WS := fun D ρ => D.bk ρ
def wCnt : WS := fun D ρ => D.ct ρ
def wWhile (c : WT) (b : WS) : WS := fun D ρ => ∃ I : Nat → Sl → Prop, (∃ m, I m ρ) ∧ ∀ m ρ, I m ρ → c ρ fun k ρ1 => if k = true then b { D with nx := fun ρ2 => ∃ m', m' < m ∧ I m' ρ2, ct := fun ρ2 => ∃ m', m' < m ∧ I m' ρ2, bk := D.nx } ρ1 else D.nx ρ1
def forL (g : WG) (b : WS) (E : PEnds) : List D → Sl → Prop
  | [], ρ => E.nx ρ
  | d :: ds, ρ => g d ρ fun ρ1 => b { E with nx := forL g b E ds, ct := forL g b E ds, bk := E.nx } ρ1
def wFor (it : WI) (g : WG) (b : WS) : WS := fun D ρ => it ρ fun items ρ1 => forL g b D items ρ1
/-- x[k] = e -/
def wSetIx (i : Nat) (k e : WE) : WS := fun D ρ => e ρ fun r ρ1 => nb r ∧ (∃ ds, ρ1[i]? = some (some (.own (.list ds)))) ∧ k ρ1 fun r1 ρ2 => ∃ n ds j, r1.d = .int n ∧ ρ2[i]? = some (some (.own (.list ds))) ∧ ixN ds.length n = some j ∧ D.nx (ρ2.set i (some (.own (.list (ds.set j r.d)))))
/-- x.append(e) -/
def wApp (i : Nat) (e : WE) : WS := fun D ρ => (∃ ds, ρ[i]? = some (some (.own (.list ds)))) ∧ e ρ fun r ρ1 => nb r ∧ ∃ ds, ρ1[i]? = some (some (.own (.list ds))) ∧ ds.length < 16777216 ∧ D.nx (ρ1.set i (some (.own (.list (ds ++ [r.d])))))
section
variable {X : Cx} {C : Cc} {pos : Pos} {st : Stmt} {rest : List Stmt} {φ ψ : WS} {e : Expr} {a : WE}
theorem b_nil : SimB X C [] wSkip := pss_nil.imp fun D σ H ⟨ρ, w, D', st, h, k⟩ => k.nx ρ w σ H (Wle.refl w) st h
theorem sem_seq {D : Ends} {σ : St} {H : Hp} (h : semS C (wSeq φ ψ) D σ H) : tSeq (semS C φ) (semS C ψ) D σ H := by
  obtain ⟨ρ, w, D', st, h, k⟩ := h
  exact ⟨ρ, w, { D' with nx := ψ D' }, st, h, ⟨fun ρ' w' σ' H' l st' q => ⟨ρ', w', D', st', q, k.mono l⟩, k.rt, k.bk, k.ct⟩⟩
theorem b_cons (h1 : SimS X C st φ) (h2 : SimB X C rest ψ) : SimB X C (st :: rest) (wSeq φ ψ) := (pss_cons h1 h2).imp fun _ _ _ h => sem_seq h
theorem b_one (h1 : SimS X C st φ) : SimB X C [st] φ := pss_one h1
theorem st_pass : SimS X C (.Pass pos) wSkip := ps_pass.imp fun D σ H ⟨ρ, w, D', st, h, k⟩ => k.nx ρ w σ H (Wle.refl w) st h
theorem st_brk : SimS X C (.Break pos) wBrk := ps_break.imp fun D σ H ⟨ρ, w, D', st, h, k⟩ => k.bk ρ w σ H (Wle.refl w) st h
theorem st_cnt : SimS X C (.Continue pos) wCnt := ps_continue.imp fun D σ H ⟨ρ, w, D', st, h, k⟩ => k.ct ρ w σ H (Wle.refl w) st h
theorem st_never : SimS X C st wNever := ps_never.imp fun D σ H ⟨ρ, w, D', st, h, k⟩ => h
theorem b_never {sts : List Stmt} : SimB X C sts wNever := pss_never.imp fun D σ H ⟨ρ, w, D', st, h, k⟩ => h
/-- a result, to be held or to stay -/
def resOf (own : Bool) (r : Res) : Res := if own then r else .im r.d
theorem svOf_res (own : Bool) {r : Res} (n : nb r) : svOf own r = svOf true (resOf own r) := by
  cases own <;> cases r <;> simp [svOf, resOf, nb] at n ⊢
theorem nb_res (own : Bool) {r : Res} (n : nb r) : nb (resOf own r) := by
  cases own <;> cases r <;> simp [resOf, nb] at n ⊢
variable {ρ ρ' : Sl} {w w' : Wd} {σ : St} {H H' : Hp} {v v' : V} {r r' : Res}
theorem Post.capIf (st : StOk C ρ w σ H) (P : Post C ρ w σ H ρ' w' H') (R : RepR C ρ' w' σ H' v r) (F : Fre ρ σ H v r) (n : nb r) (own : Bool) :
    ∃ w'', Post C ρ w σ H ρ' w'' H' ∧ RepR C ρ' w'' σ H' v (resOf own r) ∧ Fre ρ σ H v (resOf own r) := by
  cases own with
  | true => exact ⟨w', P, R, F⟩
  | false =>
    obtain ⟨w'', P', hr⟩ := P.cap st R F n.ne
    exact ⟨w'', P', hr, trivial⟩
/-- a result goes into a slot -/
theorem StOk.put (st : StOk C ρ w σ H) (R : RepR C ρ w σ H v r) (n : nb r) (i : Nat) : StOk C (ρ.set i (some (svOf true r))) w (σ.set i (some v)) H := by
  cases r with
  | im d => exact st.val i R
  | bo d => exact n.elim
  | fr d =>
    obtain ⟨p, rfl, h0, hw, hp, hn, ho⟩ := R
    refine st.store i (fun sv e => ?_) fun d q e1 e2 => ?_
    · cases e
      exact ⟨_, rfl, p, rfl, h0, hw, hp, ho⟩
    · cases e2
      rintro ⟨j, e, nj, q1, q2⟩
      exact hn ⟨j, e, q1, q2⟩
/-- two results go into two slots -/
theorem StOk.put2 (st : StOk C ρ w σ H) (R : RepR C ρ w σ H v r) (R' : RepR C ρ w σ H v' r') (n : nb r) (n' : nb r') (hne : ∀ d d' p, r = .fr d → r' = .fr d' → v = .ref p → v' ≠ .ref p) (i j : Nat) :
    StOk C ((ρ.set i (some (svOf true r))).set j (some (svOf true r'))) w ((σ.set i (some v)).set j (some v')) H := by
  refine (st.put R n i).put ?_ n' j
  cases r' with
  | im d => exact R'
  | bo d => exact n'.elim
  | fr d' =>
    obtain ⟨p, rfl, h0, hw, hp, hn, ho⟩ := R'
    refine ⟨p, rfl, h0, hw, hp, ?_, ho⟩
    rintro ⟨l, e, q1, q2⟩
    by_cases hl : i = l
    · subst hl
      by_cases hi : i < ρ.length
      · rw [List.getElem?_set_self hi] at q1
        rw [List.getElem?_set_self (by rw [← st.len]; exact hi)] at q2
        cases r with
        | im d => simp [svOf] at q1
        | bo d => exact n.elim
        | fr d => exact hne d d' p rfl rfl (by simpa using q2) rfl
      · rw [List.getElem?_eq_none (by simpa using hi)] at q1; cases q1
    · rw [List.getElem?_set_ne hl] at q1 q2
      exact hn ⟨l, e, q1, q2⟩
theorem sem_set {i : Nat} {own : Bool} {D : Ends} (h : semS C (wSet i own a) D σ H) : tAsg (semE C a) (gName i) D σ H := by
  obtain ⟨ρ, w, D', st, h, k⟩ := h
  refine ⟨ρ, w, _, st, h, fun r ρ1 w1 v H1 P1 R1 F1 ⟨n, q⟩ => ?_⟩
  obtain ⟨w2, P2, R2, F2⟩ := P1.capIf st R1 F1 n own
  rw [svOf_res own n] at q
  exact k.nx _ w2 _ H1 P2.wle (P2.st.put R2 (nb_res own n) i) q
theorem st_set (xc : Xc X C) (i : Nat) (own : Bool) {x : Str} {pos' : Pos} (he : SimE X C e a) (hi : X.N[i]? = some x := by rfl) (hx : Loc X.env.scope x := by first | exact Or.inl rfl | exact Or.inr rfl)
    (hs : swapsWith e (some (.Name x pos')) pos.line X.env = pure false := by rfl) (hf : X.fn x = true ∨ X.env.scope.names.lookup x = some .local := by first | exact .inl rfl | exact .inr rfl | assumption) :
    SimS X C (.Assign [.Name x pos'] e pos) (wSet i own a) := (ps_set xc.nd hi hx he hs hf).imp fun _ _ _ h => sem_set h
/-- name = [..] on one line -/
theorem st_setc (xc : Xc X C) (i : Nat) (own : Bool) {y : Str} {py : Pos} {elt tg iter : Expr} {ifs : List Expr} {scope : Scope} {ow : List (Str × Nat)} {js : List Nat} {pos pos' : Pos} {it : WI} {g : WG} {c : WT} {b : WE}
    (hi : SimI X C tg iter it) (ok : BlkOk X.N X.env.scope scope ow) (hj : ∀ j ∈ js, j ∈ ow.map (·.2))
    (hg : ∀ (s : Shared) (H : Hp) (Ca : Addr) (cl : List (Str × Addr)) (fp : List Addr), PG (X.blk s H scope (compEnvC scope cl Ca X.env) fp) tg (semG C js g))
    (ht : ∀ (s : Shared) (H : Hp) (Ca : Addr) (cl : List (Str × Addr)) (fp : List Addr), SimTs (X.blk s H scope (compEnvC scope cl Ca X.env) fp) C ifs c)
    (he : ∀ (s : Shared) (H : Hp) (Ca : Addr) (cl : List (Str × Addr)) (fp : List Addr), SimE (X.blk s H scope (compEnvC scope cl Ca X.env) fp) C elt b)
    (hy : X.N[i]? = some y := by rfl) (hyl : X.env.scope.names.lookup y = some .local := by rfl) (hsw : swapsWith (.ListComp elt [⟨tg, iter, ifs, 0⟩] scope pos) (some (.Name y py)) pos'.line X.env = pure true := by exact sw_true rfl rfl rfl (by decide +kernel))
    (hs : ∀ x, foldedSetIterable iter X.env x = pure x := by intro _; rfl) : SimS X C (.Assign [.Name y py] (.ListComp elt [⟨tg, iter, ifs, 0⟩] scope pos) pos') (wSet i own (wComp (ow.map (·.2)) it g c b)) :=
  (ps_setLc xc.calm xc.nd hy hyl hsw hi ok hg ht he hs).imp fun D σ H h => by
    have h' := sem_set h
    exact sem_comp hj h'
theorem st_par (xc : Xc X C) (i j : Nat) (oi oj : Bool) {x y : Str} {e2 : Expr} {b : WE} {px py pt : Pos} {kt k2 pt2} (ha : SimE X C e a) (hb : SimE X C e2 b) (hi : X.N[i]? = some x := by rfl) (hj : X.N[j]? = some y := by rfl) (hij : i ≠ j := by decide)
    (hx : X.env.scope.names.lookup x = some .local := by rfl) (hy : X.env.scope.names.lookup y = some .local := by rfl)
    (hw : swappedStores [.Tuple [.Name x px, .Name y py] kt pt] (.Tuple [e, e2] k2 pt2) X.env = pure (some [x, y]) := by rfl)
    (hs : swapsWithSole [.Tuple [.Name x px, .Name y py] kt pt] (.Tuple [e, e2] k2 pt2) pos.line X.env = pure false := by rfl)
    (hs1 : starEach [e, e2] X.env = (false, eval e X.env) :: starEach [e2] X.env := by rfl) (hs2 : starEach [e2] X.env = (false, eval e2 X.env) :: starEach [] X.env := by rfl) :
    SimS X C (.Assign [.Tuple [.Name x px, .Name y py] kt pt] (.Tuple [e, e2] k2 pt2) pos) (wPar i j oi oj a b) :=
  (ps_par xc.calm xc.nd hi hj hij hx hy (pa_cons ha (pa_cons hb pa_nil hs2) hs1) hw hs).imp fun D σ H ⟨ρ, w, D', st, h, k⟩ => by
    refine ⟨ρ, w, _, st, h, fun r ρ1 w1 v H1 P1 R1 F1 ⟨n, q⟩ => ?_⟩
    obtain ⟨w1', P1', R1', F1'⟩ := P1.capIf st R1 F1 n oi
    refine ⟨ρ1, w1', _, P1'.st, q, fun r' ρ2 w2 v' H2 P2 R2 F2 ⟨n', q⟩ => ?_⟩
    obtain ⟨w2', P2', R2', F2'⟩ := P2.capIf P1'.st R2 F2 n' oj
    refine ⟨v, v', rfl, ?_⟩
    rw [svOf_res oi n, svOf_res oj n'] at q
    refine k.nx _ w2' _ H2 (P1'.trans st P2').wle (P2'.st.put2 (R1'.post P2') R2' (nb_res oi n) (nb_res oj n') (fun d d' p e1 e2 ev ev' => ?_) i j) q
    rw [e1] at R1'
    rw [e2] at F2'
    subst ev ev'
    obtain ⟨p', e', _, _, _, hn, ho⟩ := R1'
    cases e'
    obtain ⟨o, eo⟩ := OwnAt.there ho
    rcases F2' p rfl with z | z
    · rw [eo] at z; cases z
    · exact hn z
theorem st_asg {tg : Expr} {js : List Nat} {g : WG} (he : SimE X C e a) (hg : PG X tg (semG C js g)) (hs : swapsWithSole [tg] e pos.line X.env = pure false := by rfl) (hw : swappedStores [tg] e X.env = pure none := by rfl)
    (h1 : (assignEach [tg] X.env).map (·.2) = [assign tg X.env] := by rfl) : SimS X C (.Assign [tg] e pos) (wAsg a g) :=
  (ps_asg he hg hs hw h1).imp fun D σ H ⟨ρ, w, D', st, h, k⟩ => by
    refine ⟨ρ, w, _, st, h, fun r ρ1 w1 v H1 P1 R1 F1 ⟨n, q⟩ => ?_⟩
    obtain ⟨w2, P2, hr⟩ := P1.cap st R1 F1 n.ne
    exact ⟨r.d, ρ1, w2, _, P2.st, hr, q, fun ρ2 σ2 st2 _ q2 => k.nx ρ2 w2 σ2 H1 P2.wle st2 q2⟩
theorem st_ret (he : SimE X C e a) : SimS X C (.Return (some e) pos) (wRet a) :=
  (ps_ret he).imp fun D σ H ⟨ρ, w, D', st, h, k⟩ => ⟨ρ, w, _, st, h, fun r ρ1 w1 v H1 P1 R1 F1 ⟨n, q⟩ => k.rt r ρ1 w1 σ H1 v P1.wle P1.st R1 n q⟩
theorem st_retN : SimS X C (.Return none pos) wRetN :=
  ps_retN.imp fun D σ H ⟨ρ, w, D', st, h, k⟩ => k.rt (.im .none) ρ w σ H .non (Wle.refl w) st (show Rep _ _ _ _ by simp only [Rep]) trivial h
theorem st_exp (he : SimE X C e a) (hs : swapsWith e none pos.line X.env = pure false := by rfl) : SimS X C (.Expr e pos) (wExp a) :=
  (ps_expr he hs).imp fun D σ H ⟨ρ, w, D', st, h, k⟩ => ⟨ρ, w, _, st, h, fun r ρ1 w1 v H1 P1 R1 F1 q => k.nx ρ1 w1 σ H1 P1.wle P1.st q⟩
theorem st_if {c : Expr} {t : WT} {sa sb : List Stmt} (hc : SimT X C c t) (ha : SimB X C sa φ) (hb : SimB X C sb ψ) : SimS X C (.If c sa sb pos) (wIfS t φ ψ) :=
  (ps_if hc ha hb).imp fun D σ H ⟨ρ, w, D', st, h, k⟩ => by
    refine ⟨ρ, w, _, st, h, fun b ρ1 w1 H1 P1 q => ?_⟩
    cases b with
    | true => rw [if_pos rfl] at q ⊢; exact ⟨ρ1, w1, D', P1.st, q, k.mono P1.wle⟩
    | false => rw [if_neg Bool.false_ne_true] at q ⊢; exact ⟨ρ1, w1, D', P1.st, q, k.mono P1.wle⟩
theorem st_while {c : Expr} {t : WT} {sb : List Stmt} (hp : PassesOwn (model X.prog X.w) X.A X.env X.xe) (hc : SimT X C c t) (hb : SimB X C sb φ) : SimS X C (.While c sb [] pos) (wWhile t φ) :=
  (ps_while hp hc hb).imp fun D σ H ⟨ρ, w, D', st, ⟨I, ⟨m0, i0⟩, turn⟩, k⟩ => by
    refine ⟨fun m σ H => ∃ ρ w', StOk C ρ w' σ H ∧ Wle w w' ∧ I m ρ, ⟨m0, ρ, w, st, Wle.refl w, i0⟩, ?_⟩
    rintro m σ1 H1 ⟨ρ1, w1, st1, l1, i1⟩
    refine ⟨ρ1, w1, _, st1, turn m ρ1 i1, fun b ρ2 w2 H2 P2 q => ?_⟩
    cases b with
    | false => rw [if_neg Bool.false_ne_true] at q ⊢; exact k.nx ρ2 w2 σ1 H2 (l1.trans P2.wle) P2.st q
    | true =>
      rw [if_pos rfl] at q ⊢
      refine ⟨fun σ' H' => ∃ m' , m' < m ∧ ∃ ρ w', StOk C ρ w' σ' H' ∧ Wle w w' ∧ I m' ρ, fun σ' H' h => h, ρ2, w2, _, P2.st, q, ?_⟩
      have k' := k.mono (l1.trans P2.wle)
      exact ⟨fun ρ' w' σ' H' l s' ⟨m', hm, hi⟩ => ⟨m', hm, ρ', w', s', (l1.trans P2.wle).trans l, hi⟩, k'.rt, fun ρ' w' σ' H' l s' q => k'.nx ρ' w' σ' H' l s' q, fun ρ' w' σ' H' l s' ⟨m', hm, hi⟩ => ⟨m', hm, ρ', w', s', (l1.trans P2.wle).trans l, hi⟩⟩
theorem st_for {tg iter : Expr} {sb : List Stmt} {it : WI} {js : List Nat} {g : WG} (xc : Xc X C) (hp : PassesOwn (model X.prog X.w) X.A X.env X.xe) (hi : SimI X C tg iter it) (hg : PG X tg (semG C js g)) (hb : SimB X C sb φ)
    (hs : ∀ x, foldedSetIterable iter X.env x = pure x := by intro _; rfl) : SimS X C (.For tg iter sb [] pos) (wFor it g φ) :=
  (ps_for hp xc.calm hi hg hb hs).imp fun D σ H ⟨ρ, w, D', st, h, k⟩ => by
    refine ⟨ρ, w, _, st, h, fun items ρ1 w1 J H1 P1 jok q => ?_⟩
    refine ⟨fun i m σ' H' => m = items.length - i ∧ i ≤ items.length ∧ ∃ ρ' w', StOk C ρ' w' σ' H' ∧ Wle w1 w' ∧ forL g φ D' (items.drop i) ρ', ⟨_, rfl, Nat.zero_le _, ρ1, w1, P1.st, Wle.refl w1, q⟩, ?_⟩
    rintro i m σ2 H2 ⟨rfl, hi, ρ2, w2, st2, l2, q2⟩
    by_cases hlt : i < items.length
    · refine .inr ⟨jok.goes i H2 hlt (l2.1.trans st2.sub), fun σ' H' => ∃ ρ' w', StOk C ρ' w' σ' H' ∧ Wle w1 w' ∧ forL g φ D' (items.drop (i + 1)) ρ', fun σ' H' h => ⟨_, (by omega : items.length - (i + 1) < items.length - i), rfl, hlt, h⟩, fun x H3 y => ?_⟩
      have hdrop : items.drop i = items[i] :: items.drop (i + 1) := List.drop_eq_getElem_cons hlt
      rw [hdrop] at q2
      obtain ⟨w3, st3, l3, hx⟩ : ∃ w3, StOk C ρ2 w3 σ2 H3 ∧ Wle w2 w3 ∧ Rep C.K w3.W items[i] x := by
        rcases jok.yields i H2 x H3 hlt (l2.1.trans st2.sub) y with ⟨rfl, d, e1, e2⟩ | ⟨T, us, ds, rfl, e1, rfl, e2, e3⟩
        · rw [List.getElem?_eq_getElem hlt] at e1
          cases e1
          exact ⟨w2, st2, Wle.refl w2, Rep.mono l2.1 _ e2⟩
        · rw [List.getElem?_eq_getElem hlt] at e2
          have e2' := Option.some.inj e2
          have L := st2.layW (o := .tup us) e1 (st2.h0 e1)
          refine ⟨_, L.st, L.wle, ?_⟩
          rw [e2']
          simp only [Rep]
          exact ⟨T, us, rfl, SqT.of upd_same, RepAll.mono (l2.1.trans L.ext) _ e3⟩
      refine ⟨items[i], ρ2, w3, _, st3, hx, q2, fun ρ4 σ4 st4 _ q4 => ⟨ρ4, w3, _, st4, q4, ?_⟩⟩
      have l13 := (P1.wle.trans l2).trans l3
      have k' := k.mono l13
      exact ⟨fun ρ' w' σ' H' l s' z => ⟨ρ', w', s', (l2.trans l3).trans l, z⟩, k'.rt, fun ρ' w' σ' H' l s' z => k'.nx ρ' w' σ' H' l s' z, fun ρ' w' σ' H' l s' z => ⟨ρ', w', s', (l2.trans l3).trans l, z⟩⟩
    · have e : i = items.length := by omega
      subst e
      rw [List.drop_length] at q2
      exact .inl ⟨jok.stops H2 (l2.1.trans st2.sub), k.nx ρ2 w2 σ2 H2 (P1.wle.trans l2) st2 q2⟩
/-- a slot's object is written -/
theorem StOk.write (st : StOk C ρ w σ H) {i : Nat} {d d' : D} {p : Addr} {o : HO} (e : ρ[i]? = some (some (.own d))) (es : σ[i]? = some (some (.ref p))) (h0 : C.H0 p = none) (hw : w.W p = none) (hp : w.pc ≠ some p) (ho : OwnAt C.K w (upd H p o) p d') :
    StOk C (ρ.set i (some (.own d'))) w σ (upd H p o) := by
  have hi : i < ρ.length := (List.getElem?_eq_some_iff.mp e).1
  refine ⟨fun a u q => ?_, fun a q => ?_, fun j sv q => ?_, fun j l d1 d2 p' q1 q2 h1 h2 => ?_, fun a u q n => ?_, st.new, st.ext, st.pce, by rw [List.length_set]; exact st.len⟩
  · rw [upd_ne (ne_of_none q hw)]; exact st.sub a u q
  · obtain ⟨h1, x, y, h2, h3, h4⟩ := st.cup a q
    exact ⟨h1, x, y, h2, h3, by rw [upd_ne (fun z => by rw [z] at q; exact hp q)]; exact h4⟩
  · by_cases hj : i = j
    · subst hj
      rw [List.getElem?_set_self hi] at q
      cases q
      exact ⟨_, es, p, rfl, h0, hw, hp, ho⟩
    · rw [List.getElem?_set_ne hj] at q
      obtain ⟨v, h1, h2⟩ := st.sl j sv q
      refine ⟨v, h1, ?_⟩
      cases sv with
      | val d => exact h2
      | own d1 =>
        obtain ⟨p2, rfl, a1, a2, a3, a4⟩ := h2
        refine ⟨p2, rfl, a1, a2, a3, OwnAt.keep a4 (Sub.refl _) fun u z => ?_⟩
        rw [upd_ne (fun z2 => hj (st.dist i j d d1 p e q es (by rw [h1, z2])))]; exact z
      | cup => exact h2
      | scr ns => exact h2
  · have back : ∀ (j : Nat) (d1 : D), (ρ.set i (some (SV.own d')))[j]? = some (some (SV.own d1)) → ∃ d2, ρ[j]? = some (some (SV.own d2)) := fun j d1 q => by
      by_cases hj : i = j
      · subst hj; exact ⟨d, e⟩
      · rw [List.getElem?_set_ne hj] at q; exact ⟨d1, q⟩
    obtain ⟨d3, g1⟩ := back j d1 q1
    obtain ⟨d4, g2⟩ := back l d2 q2
    exact st.dist j l d3 d4 p' g1 g2 h1 h2
  · rw [upd_ne (ne_of_none q h0)]; exact st.old a u q n
theorem st_setIx (xc : Xc X C) (i : Nat) {x : Str} {ie : Expr} {px tp : Pos} {k : WE} (he : SimE X C e a) (hk : SimE X C ie k) (hN : X.N[i]? = some x := by rfl) (hv : Vis X.env.scope x := by first | exact Or.inl rfl | exact Or.inr (Or.inl rfl) | exact Or.inr (Or.inr rfl))
    (hd : (x == ("__debug__" : Str)) = false := by decide) (hcd : (x == ("__classdict__" : Str)) = false := by decide)
    (ha : ∀ v, assign (.Subscript (.Name x px) ie tp) X.env v = (do
      let ov ← holding [v] (eval (.Name x px) X.env)
      let iv ← holding [v, ov] (eval ie X.env)
      standAt tp
      holding [v, ov, iv] (setItem ov iv v)
      release [v, ov, iv] []) := by intro _; rfl)
    (hs : swapsWithSole [.Subscript (.Name x px) ie tp] e pos.line X.env = pure false := by rfl) (hw : swappedStores [.Subscript (.Name x px) ie tp] e X.env = pure none := by rfl)
    (h1 : (assignEach [.Subscript (.Name x px) ie tp] X.env).map (·.2) = [assign (.Subscript (.Name x px) ie tp) X.env] := by rfl) : SimS X C (.Assign [.Subscript (.Name x px) ie tp] e pos) (wSetIx i k a) :=
  (ps_asg he (pg_sub (pe_var hN hv hd hcd) hk set_list ha) hs hw h1).imp fun D σ H ⟨ρ, w, D', st, h, kk⟩ => by
    refine ⟨ρ, w, _, st, h, fun r ρ1 w1 v H1 P1 R1 F1 ⟨n, ⟨ds0, e0⟩, q⟩ => ?_⟩
    obtain ⟨w1', P1', hr⟩ := P1.cap st R1 F1 n.ne
    -- the slot's object stands there all the while
    have own0 : ∀ (ρ2 : Sl) (w2 : Wd) (H2 : Hp), Post C ρ1 w1' σ H1 ρ2 w2 H2 → ∀ ds, ρ2[i]? = some (some (.own (.list ds))) → ∃ p vs, σ[i]? = some (some (.ref p)) ∧ C.H0 p = none ∧ w2.W p = none ∧ w2.pc ≠ some p ∧ H2 p = some (.lst vs) ∧ RepAll C.K w2.W ds vs := fun ρ2 w2 H2 P2 ds e => by
      obtain ⟨v, h1, p, rfl, a1, a2, a3, a4⟩ := P2.st.sl i _ e
      simp only [OwnAt] at a4
      obtain ⟨vs, b1, b2⟩ := a4
      exact ⟨p, vs, h1, a1, a2, a3, b1, b2⟩
    obtain ⟨p, vs0, b1, _⟩ := own0 ρ1 w1' H1 (Post.refl P1'.st) ds0 e0
    refine ⟨_, b1, ρ1, w1', _, P1'.st, q, fun r1 ρ2 w2 iv H2 P2 R2 F2 ⟨m, ds, j, e1, e2, e3, q2⟩ => ?_⟩
    obtain ⟨p', vs, c1, b2, b3, b4, b5, b6⟩ := own0 ρ2 w2 H2 P2 ds e2
    rw [b1] at c1
    cases c1
    refine ⟨p, vs, m, j, rfl, ?_, b5, by rw [b6.length]; exact e3, ?_⟩
    · have c := R2.cont
      rw [e1] at c
      exact c.int
    · have hr2 := Rep.mono P2.ext _ hr
      have W := P2.st.write (d' := .list (ds.set j r.d)) (o := .lst (vs.set j v)) e2 b1 b2 b3 b4 (by simp only [OwnAt]; exact ⟨_, upd_same, b6.set j hr2⟩)
      exact kk.nx _ w2 σ _ ((P1'.wle).trans P2.wle) W q2
theorem st_app (xc : Xc X C) (i : Nat) {x : Str} {px ap cp : Pos} (he : SimE X C e a) (hN : X.N[i]? = some x := by rfl) (hv : Vis X.env.scope x := by first | exact Or.inl rfl | exact Or.inr (Or.inl rfl) | exact Or.inr (Or.inr rfl))
    (hd : (x == ("__debug__" : Str)) = false := by decide) (hcd : (x == ("__classdict__" : Str)) = false := by decide)
    (hbase : attributeBase (.Name x px) "append" X.env (eval (.Name x px) X.env) = eval (.Name x px) X.env := by rfl)
    (hfew : ((backTo cp (starEach [e] X.env)).all (fun x => !x.1) && (backToKw cp (keywordEach [] X.env)).all (fun x => x.1.isSome)
      && decide ([e].length + ([] : List Keyword).length + (if ([] : List Keyword).isEmpty then 0 else 1) < 30)) = true := by rfl)
    (hline : (ap.endLine == cp.line) = true := by rfl) (hs : starEach [e] X.env = (false, eval e X.env) :: starEach [] X.env := by rfl) (hplain : (backTo cp (starEach [] X.env)).any (·.1) = false := by rfl)
    (hsw : swapsWith (.Call (.Attribute (.Name x px) "append" ap) [e] [] cp) none pos.line X.env = pure false := by rfl) : SimS X C (.Expr (.Call (.Attribute (.Name x px) "append" ap) [e] [] cp) pos) (wApp i a) :=
  (ps_expr (pe_bm PySem.F.plainAttrs_list PySem.F.slot_list_append PySem.F.type_list_append mt_append (pe_var hN hv hd hcd) (pa_cons he pa_nil hs) hbase hfew hline hs hplain) hsw).imp fun D σ H ⟨ρ, w, D', st, ⟨⟨ds0, e0⟩, h⟩, kk⟩ => by
    obtain ⟨v0, b1, p, rfl, a1, a2, a3, a4⟩ := st.sl i _ e0
    simp only [OwnAt] at a4
    obtain ⟨vs0, hp0, _⟩ := a4
    refine ⟨_, b1, .inl ⟨rfl, _, SqL.of hp0⟩, ρ, w, _, st, h, fun r ρ1 w1 v H1 P1 R1 F1 ⟨n, ds, e1, hl, q⟩ => ?_⟩
    obtain ⟨w1', P1', hr⟩ := P1.cap st R1 F1 n.ne
    obtain ⟨v', c1, p', rfl, b2, b3, b4, b5⟩ := P1'.st.sl i _ e1
    rw [b1] at c1
    cases c1
    simp only [OwnAt] at b5
    obtain ⟨vs, b5, b6⟩ := b5
    refine ⟨p, vs, v, rfl, rfl, b5, by rw [b6.length, sl16]; exact hl, ?_⟩
    have W := P1'.st.write (d' := .list (ds ++ [r.d])) (o := .lst (vs ++ [v])) e1 b1 b2 b3 b4 (by simp only [OwnAt]; exact ⟨_, upd_same, b6.append (RepAll.cons hr RepAll.nil)⟩)
    exact kk.nx _ w1' σ _ P1'.wle W q
end

/-! ### a def -/
def init (N : List Str) (cup : Bool) (ds : List D) : Sl := (if cup then [some SV.cup] else []) ++ ds.map (fun d => some (SV.val d)) ++ List.replicate (N.length - ((if cup then 1 else 0) + ds.length)) none
section
variable {P : Program} {w : World} {K : PySem.W.Frag} {mg : Str → Option Value} {base : Heap}
theorem start_get {N : List Str} {vs : List V} {i : Nat} {v : V} (h : vs[i]? = some v) : (L2.start N vs)[i]? = some (some v) := by
  have hi : i < vs.length := (List.getElem?_eq_some_iff.mp h).1
  unfold L2.start
  rw [List.getElem?_append_left (by simpa using hi), List.getElem?_map, h]; rfl
theorem map_val_get {ds : List D} {i : Nat} {n : Nat} {sv : SV} (h : (ds.map (fun d => some (SV.val d)) ++ List.replicate n none)[i]? = some (some sv)) : ∃ d, ds[i]? = some d ∧ sv = .val d := by
  by_cases hi : i < ds.length
  · rw [List.getElem?_append_left (by simpa using hi), List.getElem?_map, List.getElem?_eq_getElem hi] at h
    simp at h
    exact ⟨_, List.getElem?_eq_getElem hi, h.symm⟩
  · rw [List.getElem?_append_right (by simpa using Nat.le_of_not_lt hi), List.getElem?_replicate] at h
    split at h <;> cases h
theorem init_ok {N : List Str} {cup : Bool} {ds : List D} {us vs : List V} {W : Wd} {H : Hp} (hs : Sub W.W H) (hc : CupAt W H) (hu : match cup with | true => ∃ p, W.pc = some p ∧ vs = .ref p :: us | false => W.pc = none ∧ vs = us)
    (hr : RepAll K W.W ds us) (hl : vs.length ≤ N.length) : StOk ⟨K, H, W⟩ (init N cup ds) W (L2.start N vs) H := by
  have hlen := hr.length
  refine ⟨hs, hc, fun i sv q => ?_, fun i j d e p q1 q2 _ _ => ?_, fun a o q _ => q, fun a o q => .inl q, Sub.refl _, rfl, ?_⟩
  · cases cup with
    | false =>
      obtain ⟨hp, rfl⟩ := hu
      simp only [init, Bool.false_eq_true, if_false, List.nil_append] at q
      obtain ⟨d, h1, rfl⟩ := map_val_get q
      obtain ⟨v, h2, h3⟩ := hr.get h1
      exact ⟨v, start_get h2, h3⟩
    | true =>
      obtain ⟨p, hp, rfl⟩ := hu
      simp only [init, if_true, List.append_assoc, List.cons_append, List.nil_append] at q
      cases i with
      | zero =>
        simp at q
        subst q
        exact ⟨_, start_get rfl, p, rfl, hp⟩
      | succ i =>
        rw [List.getElem?_cons_succ] at q
        obtain ⟨d, h1, rfl⟩ := map_val_get q
        obtain ⟨v, h2, h3⟩ := hr.get h1
        exact ⟨v, start_get (by simpa using h2), h3⟩
  · exfalso
    cases cup with
    | false =>
      simp only [init, Bool.false_eq_true, if_false, List.nil_append] at q1
      obtain ⟨_, _, z⟩ := map_val_get q1
      cases z
    | true =>
      simp only [init, if_true, List.append_assoc, List.cons_append, List.nil_append] at q1
      cases i with
      | zero => simp at q1
      | succ i =>
        rw [List.getElem?_cons_succ] at q1
        obtain ⟨_, _, z⟩ := map_val_get q1
        cases z
  · cases cup with
    | false =>
      obtain ⟨hp, rfl⟩ := hu
      simp [init, L2.start]
      omega
    | true =>
      obtain ⟨p, hp, rfl⟩ := hu
      simp [init, L2.start] at hl ⊢
      omega
/-- what a def's end promises -/
theorem ends_ok {H : Hp} {W : Wd} {k : Res → Prop} {Q : VK} (hq : ∀ r w' v H', k r → Ret W H w' H' → RetR K H w' H' v r → Q v H') :
    EndsOk ⟨K, H, W⟩ W { nx := fun _ => k (.im .none), rt := k } { nx := fun _ H' => Q .non H', rt := Q } := by
  have mk : ∀ (ρ : Sl) (w' : Wd) (σ : St) (H' : Hp), Wle W w' → StOk ⟨K, H, W⟩ ρ w' σ H' → Ret W H ⟨w'.W, W.pc⟩ H' := fun ρ w' σ H' l st =>
    ⟨st.sub, fun p q => st.cup p (by rw [st.pce]; exact q), l.1, rfl, st.old, st.new⟩
  refine ⟨fun ρ' w' σ' H' l st q => ?_, fun r ρ' w' σ' H' v l st R n q => ?_, fun _ _ _ _ _ _ q => q.elim, fun _ _ _ _ _ _ q => q.elim⟩
  · exact hq _ _ .non H' q (mk ρ' w' σ' H' l st) (show Rep _ _ _ _ by simp only [Rep])
  · refine hq r _ v H' q (mk ρ' w' σ' H' l st) ?_
    cases r with
    | im d => exact R
    | fr d =>
      obtain ⟨p, e, h0, hw, hp, hn, ho⟩ := R
      refine ⟨p, e, h0, hw, fun z => hp (by rw [st.pce]; exact z), ?_⟩
      cases d <;> simp only [OwnAt] at ho ⊢
      exact ho
    | bo d => exact n.elim
/-- THE RULE for a def -/
theorem fn_rule {x qual : Str} {st : Stmt} {f : Addr} {fd : FuncData} {N ps : List Str} {k : Nat} {S : FSpec} {cup : Bool} {φ : WS} (F : Fun K x qual st f fd) (hS : FnScope N ps (defScope st))
    (hlen : ∀ ds q, S ds q → (if cup then 1 else 0) + ds.length = ps.length) (hpn : ps.length ≤ N.length)
    (hbody : ∀ (C : Cc) (cdv : Value) (A : Around) (outer : List Env) (s : Shared) (H : Hp) (E : XK), C.K = K → A.handled = none → Room k (A.deeper (PyProof.Rows.envOfC qual (defScope st) s.heap.objs.size f cdv)) →
      Xc (cxOf CX0 P w K mg base N qual (defScope st) f cdv A outer s H E).nox C → SimB (cxOf CX0 P w K mg base N qual (defScope st) f cdv A outer s H E).nox C (defBody st) φ)
    (hφ : ∀ ds q, S ds q → φ { nx := fun _ => q (.im .none), rt := q } (init N cup ds)) : FnOk P w K mg base CX0 (k + 1) f fd ps (spOf K cup S) := by
  refine F.ok hS (fun vs H Q E h => ?_) (fun cdv A outer s H vs Q E hr h => ?_)
  · obtain ⟨W, ds, us, _, _, hu, hr, q, hq, _⟩ := h
    have := hlen ds q hq
    have hl := hr.length
    cases cup with
    | true => obtain ⟨p, _, rfl⟩ := hu; simp at this ⊢; omega
    | false => obtain ⟨_, rfl⟩ := hu; simp at this ⊢; omega
  · obtain ⟨W, ds, us, hs, hc, hu, hrep, q, hq, hend⟩ := h
    have hl : vs.length ≤ N.length := by
      have := hlen ds q hq
      have hl := hrep.length
      cases cup with
      | true => obtain ⟨p, _, rfl⟩ := hu; simp at this ⊢; omega
      | false => obtain ⟨_, rfl⟩ := hu; simp at this ⊢; omega
    have hh : A.handled = none := hr.hd
    refine ⟨_, hbody ⟨K, H, W⟩ cdv A outer s H E rfl hh hr ⟨rfl, rfl, hS.nd, hr.units⟩, ?_⟩
    exact ⟨init N cup ds, W, _, init_ok hs hc hu hrep hl, hφ ds q hq, ends_ok hend⟩
end
end PL

set_option Elab.async false
set_option linter.all false
set_option maxRecDepth 100000
set_option maxHeartbeats 4000000
namespace PL
open PySem L2
/-! ### the cup: read, stored -/
/-- cup[j]: any number that may stand there -/
def wCupIx (i j : Nat) : WE := fun ρ Q => ρ[i]? = some (some .cup) ∧ j < 2 ∧ ∀ x : Int, 0 ≤ x → (j = 1 → x < 2 ^ 32) → Q (.im (.int x)) ρ
/-- cup[j] = e -/
def wCupSet (i j : Nat) (e : WE) : WS := fun D ρ => e ρ fun r ρ1 => ρ1[i]? = some (some .cup) ∧ j < 2 ∧ ∃ x : Int, r.d = .int x ∧ 0 ≤ x ∧ (j = 1 → x < 2 ^ 32) ∧ D.nx ρ1
/-- list(script) -/
def wScrList (j : Nat) : WE := fun ρ Q => ∃ ns, ρ[j]? = some (some (.scr ns)) ∧ Q (.fr (.list (ns.map .int))) ρ
section
variable {X : Cx} {C : Cc} {pos p px tp : Pos} {ρ : Sl} {w : Wd} {σ : St} {H : Hp} {a : WE} {e : Expr}
theorem s_cupix (xc : Xc X C) (i j : Nat) {x : Str} {k : Nat} {pi : Pos} (hN : X.N[i]? = some x := by rfl) (hv : Vis X.env.scope x := by first | exact Or.inl rfl | exact Or.inr (Or.inl rfl) | exact Or.inr (Or.inr rfl))
    (hd : (x == ("__debug__" : Str)) = false := by decide) (hcd : (x == ("__classdict__" : Str)) = false := by decide) (hs : PlainIx (.Constant (.int (j : Nat)) k pi) := by exact fun _ _ => rfl) :
    SimE X C (.Subscript (.Name x px) (.Constant (.int (j : Nat)) k pi) pos) (wCupIx i j) :=
  (pe_ix ix_list (pe_var hN hv hd hcd) pe_int hs).imp fun σ H Q ⟨ρ, w, Q', st, ⟨h1, h2, h3⟩, kk⟩ => by
    obtain ⟨v, e1, q, rfl, e2⟩ := st.sl i _ h1
    obtain ⟨c1, a, b, c2, c3, c4⟩ := st.cup q e2
    refine ⟨_, e1, ?_⟩
    have go : ∀ x : Int, atI [V.int a, V.int b] ((j : Nat) : Int) = some (.int x) → 0 ≤ x → (j = 1 → x < 2 ^ 32) → rIxL X.K (.ref q) (.int (j : Nat)) H Q := fun x g g0 g1 =>
      ⟨q, _, _, _, rfl, rfl, SqL.of c4, g, kk (.im (.int x)) ρ w _ H (Post.refl st) rr_int trivial (h3 x g0 g1)⟩
    cases j with
    | zero => exact go a (atI_nat rfl) c2 (fun z => by omega)
    | succ j =>
      cases j with
      | zero => exact go b (atI_nat rfl) c3.1 (fun _ => c3.2)
      | succ j => omega
theorem StOk.cupset (st : StOk C ρ w σ H) {q : Addr} (hq : w.pc = some q) {a b : Int} (ha : 0 ≤ a) (hb : 0 ≤ b ∧ b < 2 ^ 32) : StOk C ρ w σ (upd H q (.lst [.int a, .int b])) := by
  obtain ⟨c1, a', b', c2, c3, c4⟩ := st.cup q hq
  refine ⟨fun z u h => ?_, fun z h => ?_, fun i sv h => ?_, st.dist, fun z u h n => ?_, st.new, st.ext, st.pce, st.len⟩
  · rw [upd_ne (ne_of_none h c1)]; exact st.sub z u h
  · rw [hq] at h; cases h
    exact ⟨c1, a, b, ha, hb, upd_same⟩
  · obtain ⟨v, h1, h2⟩ := st.sl i sv h
    refine ⟨v, h1, ?_⟩
    cases sv with
    | val d => exact h2
    | own d =>
      obtain ⟨p2, rfl, a1, a2, a3, a4⟩ := h2
      exact ⟨p2, rfl, a1, a2, a3, OwnAt.keep a4 (Sub.refl _) fun u z => by rw [upd_ne (fun e => by rw [e] at a3; exact a3 hq)]; exact z⟩
    | cup => exact h2
    | scr ns => exact h2
  · rw [upd_ne (fun e => n (by rw [← st.pce, e]; exact hq))]; exact st.old z u h n
theorem st_cupset (xc : Xc X C) (i j : Nat) {x : Str} {k : Nat} {pi : Pos} (he : SimE X C e a) (hN : X.N[i]? = some x := by rfl) (hv : Vis X.env.scope x := by first | exact Or.inl rfl | exact Or.inr (Or.inl rfl) | exact Or.inr (Or.inr rfl))
    (hd : (x == ("__debug__" : Str)) = false := by decide) (hcd : (x == ("__classdict__" : Str)) = false := by decide)
    (ha : ∀ v, assign (.Subscript (.Name x px) (.Constant (.int (j : Nat)) k pi) tp) X.env v = (do
      let ov ← holding [v] (eval (.Name x px) X.env)
      let iv ← holding [v, ov] (eval (.Constant (.int (j : Nat)) k pi) X.env)
      standAt tp
      holding [v, ov, iv] (setItem ov iv v)
      release [v, ov, iv] []) := by intro _; rfl)
    (hs : swapsWithSole [.Subscript (.Name x px) (.Constant (.int (j : Nat)) k pi) tp] e pos.line X.env = pure false := by rfl) (hw : swappedStores [.Subscript (.Name x px) (.Constant (.int (j : Nat)) k pi) tp] e X.env = pure none := by rfl)
    (h1 : (assignEach [.Subscript (.Name x px) (.Constant (.int (j : Nat)) k pi) tp] X.env).map (·.2) = [assign (.Subscript (.Name x px) (.Constant (.int (j : Nat)) k pi) tp) X.env] := by rfl) :
    SimS X C (.Assign [.Subscript (.Name x px) (.Constant (.int (j : Nat)) k pi) tp] e pos) (wCupSet i j a) :=
  (ps_asg he (pg_sub (pe_var hN hv hd hcd) pe_int set_list ha) hs hw h1).imp fun D σ H ⟨ρ, w, D', st, h, kk⟩ => by
    refine ⟨ρ, w, _, st, h, fun r ρ1 w1 v H1 P1 R1 F1 ⟨e0, hj, x, ex, x0, x1, q⟩ => ?_⟩
    obtain ⟨v', e1, q', rfl, e2⟩ := P1.st.sl i _ e0
    obtain ⟨c1, a, b, c2, c3, c4⟩ := P1.st.cup q' e2
    have c := R1.cont
    rw [ex] at c
    rw [c.int]
    refine ⟨_, e1, ?_⟩
    cases j with
    | zero => exact ⟨q', _, _, 0, rfl, rfl, c4, rfl, kk.nx ρ1 w1 σ _ P1.wle (P1.st.cupset e2 x0 c3) q⟩
    | succ j =>
      cases j with
      | zero => exact ⟨q', _, _, 1, rfl, rfl, c4, rfl, kk.nx ρ1 w1 σ _ P1.wle (P1.st.cupset e2 c2 ⟨x0, x1 rfl⟩) q⟩
      | succ j => omega
theorem s_scrlist (xc : Xc X C) (j : Nat) {x y : Str} (hg : Gl X x) (hm : X.mg x = none) (hv : bootBuiltins x = some (.type "list")) (hN : X.N[j]? = some y := by rfl) (hvi : Vis X.env.scope y := by first | exact Or.inl rfl | exact Or.inr (Or.inl rfl) | exact Or.inr (Or.inr rfl))
    (hd : (y == ("__debug__" : Str)) = false := by decide) (hcd : (y == ("__classdict__" : Str)) = false := by decide) (hn : x ≠ "__name__" := by decide) (hdb : (x == ("__debug__" : Str)) = false := by decide)
    (he : starEach [.Name y px] X.env = (false, eval (.Name y px) X.env) :: starEach [] X.env := by rfl) (hpl : (backTo pos (starEach [] X.env)).any (·.1) = false := by rfl) : SimE X C (.Call (.Name x p) [.Name y px] [] pos) (wScrList j) :=
  (pe_callTy call_list_of hg hm hv (pa_cons (pe_var hN hvi hd hcd) pa_nil he) hn hdb he hpl).imp fun σ H Q ⟨ρ, w, Q', st, ⟨ns, h1, h⟩, kk⟩ => by
    obtain ⟨v, e1, a, rfl, hc, e2⟩ := st.sl j _ h1
    have e3 : SqL X.K H a (ns.map V.int) := by
      rw [xc.hK]
      rcases e2 with (e2 | ⟨o, e2⟩) | e2
      · exact .inl (.inl (st.old a _ e2 hc))
      · exact .inl (.inr ⟨o, st.old a _ e2 hc⟩)
      · exact .inr e2
    refine ⟨_, e1, a, _, rfl, .inl e3, fun l hl => ?_⟩
    obtain ⟨P, R, F⟩ := st.newL hl (RepAll.of_ints (K := C.K) (W := w.W) (ns := ns))
    exact kk _ ρ w _ _ P R F h
end

/-! ### the cup's maker, the law itself -/
/-- what `_law_cup` promises: from a list of ints a new list of two -/
def spCup (K : PySem.W.Frag) : Sp := fun vs H Q _ => ∃ (a : Addr) (ns : List Int), vs = [.ref a] ∧ SqL K H a (ns.map .int) ∧ ns.length ≤ 1000000 ∧
  ∀ (p : Addr) (x y : Int) (H' : Hp), 0 ≤ x → 0 ≤ y → y < 2 ^ 32 → H p = none → Sub H H' → H' p = some (.lst [.int x, .int y]) → Q (.ref p) H'
def spLaw (K : PySem.W.Frag) : Sp := fun vs H Q _ => ∃ (a : Addr) (ns : List Int), vs = [.ref a] ∧ SqL K H a (ns.map .int) ∧ ns.length ≤ 1000000 ∧ ∀ H', Q (.bl true) H'
def initS (N : List Str) (ns : List Int) : Sl := some (.scr ns) :: List.replicate (N.length - 1) none
def noW : Wd := ⟨fun _ => none, none⟩
section
variable {P : Program} {w : World} {K : PySem.W.Frag} {mg : Str → Option Value} {base : Heap}
theorem initS_ok {N : List Str} {ns : List Int} {a : Addr} {H : Hp} (h : SqL K H a (ns.map V.int)) (hl : 1 ≤ N.length) : StOk ⟨K, H, noW⟩ (initS N ns) noW (L2.start N [.ref a]) H := by
  refine ⟨fun _ _ q => (by cases q), fun _ q => (by cases q), fun i sv q => ?_, fun i j d e p q1 _ _ _ => ?_, fun _ _ q _ => q, fun _ _ q => (by cases q), Sub.refl _, rfl, ?_⟩
  · cases i with
    | zero =>
      simp [initS] at q
      subst q
      exact ⟨_, start_get rfl, a, rfl, by simp [noW], h⟩
    | succ i =>
      simp only [initS, List.getElem?_cons_succ, List.getElem?_replicate] at q
      split at q <;> cases q
  · exfalso
    cases i with
    | zero => simp [initS] at q1
    | succ i =>
      simp only [initS, List.getElem?_cons_succ, List.getElem?_replicate] at q1
      split at q1 <;> cases q1
  · simp [initS, L2.start]
theorem cup_rule {x qual : Str} {st : Stmt} {f : Addr} {fd : FuncData} {N : List Str} {y : Str} {k : Nat} {φ : WS} (F : Fun K x qual st f fd) (hS : FnScope N [y] (defScope st)) (hpn : 1 ≤ N.length)
    (hbody : ∀ (C : Cc) (cdv : Value) (A : Around) (outer : List Env) (s : Shared) (H : Hp) (E : XK), C.K = K → A.handled = none → Room k (A.deeper (PyProof.Rows.envOfC qual (defScope st) s.heap.objs.size f cdv)) →
      Xc (cxOf CX0 P w K mg base N qual (defScope st) f cdv A outer s H E).nox C → SimB (cxOf CX0 P w K mg base N qual (defScope st) f cdv A outer s H E).nox C (defBody st) φ)
    (hφ : ∀ ns : List Int, ns.length ≤ 1000000 → φ { nx := fun _ => False, rt := fun r => ∃ a b : Int, r = .fr (.list [.int a, .int b]) ∧ 0 ≤ a ∧ 0 ≤ b ∧ b < 2 ^ 32 } (initS N ns)) : FnOk P w K mg base CX0 (k + 1) f fd [y] (spCup K) := by
  refine F.ok hS (fun vs H Q E h => ?_) (fun cdv A outer s H vs Q E hr h => ?_)
  · obtain ⟨a, ns, rfl, _⟩ := h; rfl
  · obtain ⟨a, ns, rfl, hq, hle, hend⟩ := h
    have hh : A.handled = none := hr.hd
    refine ⟨_, hbody ⟨K, H, noW⟩ cdv A outer s H E rfl hh hr ⟨rfl, rfl, hS.nd, hr.units⟩, initS N ns, noW, _, initS_ok hq hpn, hφ ns hle, fun _ _ _ _ _ _ q => q.elim, ?_, fun _ _ _ _ _ _ q => q.elim, fun _ _ _ _ _ _ q => q.elim⟩
    rintro r ρ' w' σ' H' v l st R n ⟨x, y, rfl, h1, h2, h3⟩
    obtain ⟨p, rfl, h0, _, _, _, ho⟩ := R
    simp only [OwnAt, RepAll, Rep] at ho
    obtain ⟨vs, e, v1, r1, rfl, rfl, v2, r2, rfl, rfl, rfl⟩ := ho
    exact hend p x y H' h1 h2 h3 h0 (fun b o q => st.old b o q (by simp [noW])) e
/-- behind the cup's making -/
def lawE : PEnds := { nx := fun _ => False, rt := fun r => r.d = .bool true }
def semL (K : PySem.W.Frag) (ψ : WS) : TS := fun D σ H => ∃ C ρ w, C.K = K ∧ C.W0.pc = none ∧ StOk C ρ w σ H ∧ ψ lawE ρ ∧ ∀ H', D.rt (.bl true) H'
def semL' (K : PySem.W.Frag) (ψ : WS) : TS := fun D σ H => ∃ C ρ w, C.K = K ∧ StOk C ρ w σ H ∧ ψ lawE ρ ∧ ∀ H', D.rt (.bl true) H'
def wNew (i j : Nat) (ψ : WS) : WS := fun D ρ => (∃ ns, ρ[j]? = some (some (.scr ns)) ∧ ns.length ≤ 1000000) ∧ (∀ (l : Nat) (d : PyData), ρ[l]? ≠ some (some (SV.own d))) ∧ (∀ (l : Nat) (ns : List Int), l ≠ j → ρ[l]? ≠ some (some (SV.scr ns))) ∧ (∀ l : Nat, ρ[l]? ≠ some (some .cup)) ∧ ψ D ((ρ.set j none).set i (some .cup))
section
variable {X : Cx} {pos p : Pos} {st : Stmt} {rest : List Stmt} {φ ψ : WS}
theorem lawE_ends {C : Cc} {w : Wd} {D : Ends} (h : ∀ H', D.rt (.bl true) H') : EndsOk C w lawE D :=
  ⟨fun _ _ _ _ _ _ q => q.elim, fun r ρ' w' σ' H' v _ st R _ q => by
    have c := R.cont
    have q' : r.d = .bool true := q
    rw [q'] at c
    rw [c.bool]
    exact h H', fun _ _ _ _ _ _ q => q.elim, fun _ _ _ _ _ _ q => q.elim⟩
theorem l_cons (h1 : ∀ C : Cc, C.K = X.K → SimS X C st φ) (h2 : PSs X rest (semL X.K ψ)) : PSs X (st :: rest) (semL X.K (wSeq φ ψ)) := by
  refine ⟨fun pins s σ H D I ⟨C, ρ, w, hK, hp, st', h, hr⟩ => ?_⟩
  refine (pss_cons (h1 C hK) h2).run pins s σ H D I ?_
  refine ⟨ρ, w, { lawE with nx := ψ lawE }, st', h, ⟨fun ρ' w' σ' H' l s' q => ⟨C, ρ', w', hK, hp, s', q, hr⟩, (lawE_ends hr).rt, fun _ _ _ _ _ _ q => q.elim, fun _ _ _ _ _ _ q => q.elim⟩⟩
theorem l_rest (h : ∀ C : Cc, C.K = X.K → SimB X C rest ψ) : PSs X rest (semL' X.K ψ) :=
  ⟨fun pins s σ H D I ⟨C, ρ, w, hK, st', q, hr⟩ => (h C hK).run pins s σ H D I ⟨ρ, w, lawE, st', q, lawE_ends hr⟩⟩
theorem l_new {k : Nat} {f : Addr} {fd : FuncData} {ps : List Str} (i j : Nat) {x y z : Str} {px py pc pos : Pos} (calm : X.calm = true) (nd : X.N.Nodup) (hij : i ≠ j) (hlj : j < X.N.length)
    (F : FnOk X.prog X.w X.K X.mg X.base CX0 k f fd ps (spCup X.K)) (hr : Room k X.A) (hg : Gl X x) (hm : X.mg x = some (.ref f)) (hk : PySem.W.keepIn X.K (.ref f) = true) (hb : Binds X.K fd ps [])
    (hrest : PSs X rest (semL' X.K ψ)) (hN : X.N[j]? = some y := by rfl) (hv : Vis X.env.scope y := by first | exact Or.inl rfl | exact Or.inr (Or.inl rfl) | exact Or.inr (Or.inr rfl))
    (hd : (y == ("__debug__" : Str)) = false := by decide) (hcd : (y == ("__classdict__" : Str)) = false := by decide) (hdb : (x == ("__debug__" : Str)) = false := by decide)
    (he : starEach [.Name y py] X.env = (false, eval (.Name y py) X.env) :: starEach [] X.env := by rfl) (hpl : (backTo pc (starEach [] X.env)).any (·.1) = false := by rfl)
    (hi : X.N[i]? = some z := by rfl) (hx : Loc X.env.scope z := by first | exact Or.inl rfl | exact Or.inr rfl)
    {pz : Pos} (hs : swapsWith (.Call (.Name x px) [.Name y py] [] pc) (some (.Name z pz)) pos.line X.env = pure false := by rfl) (hf : X.fn z = true ∨ X.env.scope.names.lookup z = some .local := by first | exact .inl rfl | exact .inr rfl | assumption) :
    PSs X (.Assign [.Name z pz] (.Call (.Name x px) [.Name y py] [] pc) pos :: rest) (semL X.K (wNew i j ψ)) := by
  refine (pss_cons (ps_set nd hi hx (pe_call F hr hg hm hk hb .nil pass0 (pa_cons (pe_var hN hv hd hcd) pa_nil he) hdb he hpl) hs hf) hrest).imp fun D σ H ⟨C, ρ, w, hK, hp, st, ⟨⟨ns, h1, hle⟩, h2, h3, h4, h5⟩, hq⟩ => ?_
  obtain ⟨v, e1, a, rfl, ha, e2⟩ := st.sl j _ h1
  have e3 : SqL X.K H a (ns.map V.int) := by
    rw [← hK]
    rcases e2 with (e2 | ⟨o, e2⟩) | e2
    · exact .inl (.inl (st.old a _ e2 ha))
    · exact .inl (.inr ⟨o, st.old a _ e2 ha⟩)
    · exact .inr e2
  refine ⟨_, e1, ?_⟩
  refine ⟨a, ns, rfl, e3, hle, fun p x y H' hx hy hy2 hpn hsub hp' => ?_⟩
  have pcn : w.pc = none := by rw [st.pce]; exact hp
  have hWp : w.W p = none := st.noW hpn
  refine ⟨⟨C.K, H', ⟨w.W, some p⟩⟩, _, ⟨w.W, some p⟩, hK, ⟨?_, ?_, ?_, ?_, ?_, ?_, ?_, ?_, ?_⟩, h5, hq⟩
  · exact fun b o q => hsub b o (st.sub b o q)
  · intro q e
    cases e
    exact ⟨hWp, x, y, hx, ⟨hy, hy2⟩, hp'⟩
  · intro l sv q
    by_cases e : i = l
    · subst e
      by_cases hl : i < (ρ.set j none).length
      · rw [List.getElem?_set_self hl] at q
        cases q
        refine ⟨.ref p, ?_, p, rfl, rfl⟩
        rw [List.getElem?_set_self (by rw [← st.len]; simpa using hl)]
      · rw [List.getElem?_eq_none (by simpa using hl)] at q; cases q
    · rw [List.getElem?_set_ne e] at q ⊢
      by_cases e2 : j = l
      · subst e2
        by_cases hl : j < ρ.length
        · rw [List.getElem?_set_self hl] at q; cases q
        · rw [List.getElem?_eq_none (by simpa using hl)] at q; cases q
      · rw [List.getElem?_set_ne e2] at q
        obtain ⟨v, a1, a2⟩ := st.sl l sv q
        refine ⟨v, a1, ?_⟩
        cases sv with
        | val d => exact a2
        | own d => exact (h2 l d q).elim
        | cup => exact (h4 l q).elim
        | scr ns => exact (h3 l ns (Ne.symm e2) q).elim
  · intro l l' d d' q q1 q2 _ _
    exfalso
    by_cases e : i = l
    · subst e
      by_cases hl : i < (ρ.set j none).length
      · rw [List.getElem?_set_self hl] at q1; cases q1
      · rw [List.getElem?_eq_none (by simpa using hl)] at q1; cases q1
    · rw [List.getElem?_set_ne e] at q1
      by_cases e2 : j = l
      · subst e2
        by_cases hl : j < ρ.length
        · rw [List.getElem?_set_self hl] at q1; cases q1
        · rw [List.getElem?_eq_none (by simpa using hl)] at q1; cases q1
      · rw [List.getElem?_set_ne e2] at q1
        exact h2 l d q1
  · exact fun b o q _ => q
  · exact fun b o q => .inl q
  · exact Sub.refl _
  · rfl
  · rw [List.length_set, List.length_set, List.length_set]; exact st.len
theorem law_rule {x qual : Str} {st : Stmt} {f : Addr} {fd : FuncData} {N : List Str} {y : Str} {k : Nat} {φ : WS} (F : Fun K x qual st f fd) (hS : FnScope N [y] (defScope st)) (hpn : 1 ≤ N.length)
    (hbody : ∀ (cdv : Value) (A : Around) (outer : List Env) (s : Shared) (H : Hp) (E : XK), A.handled = none → Room k (A.deeper (PyProof.Rows.envOfC qual (defScope st) s.heap.objs.size f cdv)) →
      (∀ C : Cc, C.K = K → Xc (cxOf CX0 P w K mg base N qual (defScope st) f cdv A outer s H E).nox C) → PSs (cxOf CX0 P w K mg base N qual (defScope st) f cdv A outer s H E).nox (defBody st) (semL K φ))
    (hφ : ∀ ns : List Int, ns.length ≤ 1000000 → φ lawE (initS N ns)) : FnOk P w K mg base CX0 (k + 1) f fd [y] (spLaw K) := by
  refine F.ok hS (fun vs H Q E h => ?_) (fun cdv A outer s H vs Q E hr h => ?_)
  · obtain ⟨a, ns, rfl, _⟩ := h; rfl
  · obtain ⟨a, ns, rfl, hq, hle, hend⟩ := h
    exact ⟨_, hbody cdv A outer s H E hr.hd hr fun C e => ⟨e.symm, rfl, hS.nd, hr.units⟩, ⟨K, H, noW⟩, initS N ns, noW, rfl, rfl, initS_ok hq hpn, hφ ns hle, hend⟩
end
end
end PL

set_option Elab.async false
set_option linter.all false
set_option maxRecDepth 100000
set_option maxHeartbeats 4000000
namespace PL
open PySem L2
/-! ### defs by name -/
structure Def (P : Program) (w : World) (K : PySem.W.Frag) (mg : Str → Option Value) (base : Heap) (x : Str) (k : Nat) (ps : List Str) (sp : Sp) : Prop where
  ex : ∃ f fd, FnOk P w K mg base CX0 k f fd ps sp ∧ Binds K fd ps [] ∧ PySem.W.keepIn K (.ref f) = true ∧ mg x = some (.ref f)
section
variable {X : Cx} {C : Cc} {k : Nat} {ps : List Str} {S : FSpec} {x y : Str} {p p2 pos : Pos} {e : Expr} {es : List Expr} {ψ : WA}
theorem s_callD (xc : Xc X C) (F : Def X.prog X.w X.K X.mg X.base x k ps (spOf X.K false S)) (hr : Room k X.A) (hg : Gl X x)
    (ha : SimA X C (e :: es) ψ) (hdb : (x == ("__debug__" : Str)) = false := by decide) (he : starEach (e :: es) X.env = (false, eval e X.env) :: starEach es X.env := by rfl) (hpl : (backTo pos (starEach es X.env)).any (·.1) = false := by rfl) :
    SimE X C (.Call (.Name x p) (e :: es) [] pos) (wCall S ψ) := by
  obtain ⟨f, fd, h1, h2, h3, h4⟩ := F.ex
  exact s_call xc h1 hr hg h4 h3 h2 ha hdb he hpl
theorem s_call0D (xc : Xc X C) (F : Def X.prog X.w X.K X.mg X.base x k ps (spOf X.K false S)) (hr : Room k X.A) (hg : Gl X x)
    (hdb : (x == ("__debug__" : Str)) = false := by decide) : SimE X C (.Call (.Name x p) [] [] pos) (wCall S wNil) := by
  obtain ⟨f, fd, h1, h2, h3, h4⟩ := F.ex
  exact s_call0 xc h1 hr hg h4 h3 h2 hdb
theorem s_callCD (xc : Xc X C) (i : Nat) (F : Def X.prog X.w X.K X.mg X.base x k ps (spOf X.K true S)) (hr : Room k X.A) (hg : Gl X x)
    (ha : SimA X C es ψ) (hN : X.N[i]? = some y := by rfl) (hv : Vis X.env.scope y := by first | exact Or.inl rfl | exact Or.inr (Or.inl rfl) | exact Or.inr (Or.inr rfl))
    (hdy : (y == ("__debug__" : Str)) = false := by decide) (hcd : (y == ("__classdict__" : Str)) = false := by decide)
    (hdb : (x == ("__debug__" : Str)) = false := by decide) (he : starEach (.Name y p2 :: es) X.env = (false, eval (.Name y p2) X.env) :: starEach es X.env := by rfl) (hpl : (backTo pos (starEach es X.env)).any (·.1) = false := by rfl) :
    SimE X C (.Call (.Name x p) (.Name y p2 :: es) [] pos) (wCallC i S ψ) := by
  obtain ⟨f, fd, h1, h2, h3, h4⟩ := F.ex
  exact s_callC xc i h1 hr hg h4 h3 h2 ha hN hv hdy hcd hdb he hpl
theorem l_newD {rest : List Stmt} {ψ : WS} (i j : Nat) {z : Str} {px py pc : Pos} (calm : X.calm = true) (nd : X.N.Nodup) (hij : i ≠ j) (hlj : j < X.N.length)
    (F : Def X.prog X.w X.K X.mg X.base x k ps (spCup X.K)) (hr : Room k X.A) (hg : Gl X x)
    (hrest : PSs X rest (semL' X.K ψ)) (hN : X.N[j]? = some y := by rfl) (hv : Vis X.env.scope y := by first | exact Or.inl rfl | exact Or.inr (Or.inl rfl) | exact Or.inr (Or.inr rfl))
    (hd : (y == ("__debug__" : Str)) = false := by decide) (hcd : (y == ("__classdict__" : Str)) = false := by decide) (hdb : (x == ("__debug__" : Str)) = false := by decide)
    (he : starEach [.Name y py] X.env = (false, eval (.Name y py) X.env) :: starEach [] X.env := by rfl) (hpl : (backTo pc (starEach [] X.env)).any (·.1) = false := by rfl)
    (hi : X.N[i]? = some z := by rfl) (hx : Loc X.env.scope z := by first | exact Or.inl rfl | exact Or.inr rfl)
    {pz : Pos} (hs : swapsWith (.Call (.Name x px) [.Name y py] [] pc) (some (.Name z pz)) pos.line X.env = pure false := by rfl) (hf : X.fn z = true ∨ X.env.scope.names.lookup z = some .local := by first | exact .inl rfl | exact .inr rfl | assumption) :
    PSs X (.Assign [.Name z pz] (.Call (.Name x px) [.Name y py] [] pc) pos :: rest) (semL X.K (wNew i j ψ)) := by
  obtain ⟨f, fd, h1, h2, h3, h4⟩ := F.ex
  exact l_new i j calm nd hij hlj h1 hr hg h4 h3 h2 hrest hN hv hd hcd hdb he hpl hi hx hs hf
end
theorem mk_def {P : Program} {w : World} {K : PySem.W.Frag} {mg : Str → Option Value} {base : Heap} {x : Str} {k : Nat} {ps : List Str} {sp : Sp} {st : Stmt} {f : Addr} {fd : FuncData}
    (F : Fun K x x st f fd) (m : mg x = some (.ref f)) (hb : Binds K fd ps []) (h : FnOk P w K mg base CX0 k f fd ps sp) : Def P w K mg base x k ps sp := ⟨f, fd, h, hb, F.kp, m⟩

/-! ### names at once, both sides written: the general road -/
section
variable {X : Cx} {C : Cc} {pos : Pos}
/-- a, b = e1, e2, where a name is a cell -/
theorem st_par2 (xc : Xc X C) (i j : Nat) (oi oj : Bool) {x y : Str} {e e2 : Expr} {a b : WE} {px py pt : Pos} {kt k2 pt2} (ha : SimE X C e a) (hb : SimE X C e2 b) (hi : X.N[i]? = some x := by rfl) (hj : X.N[j]? = some y := by rfl)
    (hx : Loc X.env.scope x := by first | exact Or.inl rfl | exact Or.inr rfl) (hy : Loc X.env.scope y := by first | exact Or.inl rfl | exact Or.inr rfl)
    (hf : X.fn x = true ∨ X.env.scope.names.lookup x = some .local := by first | exact .inl rfl | exact .inr rfl | assumption) (hf2 : X.fn y = true ∨ X.env.scope.names.lookup y = some .local := by first | exact .inl rfl | exact .inr rfl | assumption)
    (hw : swappedStores [.Tuple [.Name x px, .Name y py] kt pt] (.Tuple [e, e2] k2 pt2) X.env = pure none := by rfl)
    (hs : swapsWithSole [.Tuple [.Name x px, .Name y py] kt pt] (.Tuple [e, e2] k2 pt2) pos.line X.env = pure false := by rfl)
    (h1 : (assignEach [.Tuple [.Name x px, .Name y py] kt pt] X.env).map (·.2) = [assign (.Tuple [.Name x px, .Name y py] kt pt) X.env] := by rfl)
    (hn : (assignEach [.Name x px, .Name y py] X.env).length = 2 := by rfl) (hst : (assignEach [.Name x px, .Name y py] X.env).findIdx? (·.1) = none := by rfl)
    (hg1 : (assignEach [.Name x px, .Name y py] X.env).map (·.2) = assign (.Name x px) X.env :: (assignEach [.Name y py] X.env).map (·.2) := by rfl)
    (hg2 : (assignEach [.Name y py] X.env).map (·.2) = assign (.Name y py) X.env :: (assignEach [] X.env).map (·.2) := by rfl)
    (hs1 : starEach [e, e2] X.env = (false, eval e X.env) :: starEach [e2] X.env := by rfl) (hs2 : starEach [e2] X.env = (false, eval e2 X.env) :: starEach [] X.env := by rfl) :
    SimS X C (.Assign [.Tuple [.Name x px, .Name y py] kt pt] (.Tuple [e, e2] k2 pt2) pos) (wPar i j oi oj a b) :=
  (ps_asg (pe_tup (pa_cons ha (pa_cons hb pa_nil hs2) hs1)) (pg_tup (n := 2) xc.calm (pgs_cons (pg_name xc.nd hi hx hf) (pgs_cons (pg_name xc.nd hj hy hf2) pgs_nil hg2) hg1) hn hst) hs hw h1).imp fun D σ H ⟨ρ, w, D', st, h, k⟩ => by
    refine ⟨ρ, w, _, st, h, fun r ρ1 w1 v H1 P1 R1 F1 ⟨n, q⟩ => ?_⟩
    obtain ⟨w1', P1', R1', F1'⟩ := P1.capIf st R1 F1 n oi
    refine ⟨ρ1, w1', _, P1'.st, q, fun r' ρ2 w2 v' H2 P2 R2 F2 ⟨n', q⟩ => ?_⟩
    obtain ⟨w2', P2', R2', F2'⟩ := P2.capIf P1'.st R2 F2 n' oj
    refine ⟨by show 2 ≤ sizeLine; rw [sl16]; decide, fun p hp => ?_⟩
    refine ⟨p, [v, v'], rfl, SqT.of upd_same, rfl, v, [v'], rfl, v', [], rfl, rfl, ?_⟩
    rw [svOf_res oi n, svOf_res oj n'] at q
    have L := P2'.st.lay (o := .tup [v, v']) hp
    refine k.nx _ w2' _ _ (P1'.trans st P2').wle (L.st.put2 ((R1'.post P2').post L) (R2'.post L) (nb_res oi n) (nb_res oj n') (fun d d' p e1 e2 ev ev' => ?_) i j) q
    rw [e1] at R1'
    rw [e2] at F2'
    subst ev ev'
    obtain ⟨p', e', _, _, _, hn, ho⟩ := R1'
    cases e'
    obtain ⟨o, eo⟩ := OwnAt.there ho
    rcases F2' p rfl with z | z
    · rw [eo] at z; cases z
    · exact hn z
end
end PL

set_option Elab.async false
set_option linter.all false
set_option maxRecDepth 100000
set_option maxHeartbeats 4000000
namespace PL
open PySem PySem.Spec PyProof.Rows L2
section
variable {P : Program} {w : World} {A : Around} {E : Value → Shared → Prop} {s : Shared} {a : Addr}
set_option maxRecDepth 100000 in
set_option maxHeartbeats 3200000 in
theorem call_set_lstI {l : Addr} {items : Array Value} (ns : List Int) {Q : Value → Shared → Prop} (hh : A.handled = none) (hl : s.heap.IsList l items) (hit : IntsAre items.toList ns) (hb : ns.length + 1 < scanBound)
    (h : ∀ (h' : Heap) (tk c : Nat), SetR w h' s.heap.objs.size (fun j => decide (j ∈ ns)) c → c ≤ ns.length → (∀ b o, s.heap.get? b = some o → h'.get? b = some o) → Q (.ref s.heap.objs.size) { s with heap := h', toks := tk }) :
    wpAny (model P w) A (call (.type "set") [.ref l]) Q E s := by
  have hisz : items.size = ns.length := by
    have q := IntsAre.length hit
    rw [Array.length_toList] at q
    exact q
  obtain ⟨c, tl, hmro⟩ := F.called_set.mro
  have hmade := F.called_set.made
  have hsub := F.called_set.sub
  refine wpAny_call (codeAny_of_tree ?_)
  show wpAny _ _ (callAny (.type "set") _) _ _ _
  refine wpAny_pure ⟨Code.quiet_builtin _ (by decide +kernel), codeAny_builtin F.entry_type_call ?_⟩
  rw [Around.under_plain (weight_type_call_type "set" [.ref l] []) rfl]
  have h1 := F.called_set.notType
  have h2 := F.called_set.canCreate
  have hct := F.typeCall_set_1 (.ref l)
  repeat (any_goals (first | assumption | wp_step))

  refine codeAny_mono (code_set_led1 (.ref l) (E := E) (Q₁ := fun obj s₁ => obj = .ref s.heap.objs.size ∧ s₁ = { s with heap := s.heap.push { cls := .type "set", dict := none, data := .set #[] 0 (.fresh 0 0 (!w.params.followText "set-order")) } }) ⟨rfl, rfl⟩) fun r s₁ hr => ?_
  cases r with
  | error e => exact hr
  | ok fl =>
    cases fl with
    | ret obj =>
      obtain ⟨rfl, rfl⟩ := hr
      have hS : (s.heap.push { cls := .type "set", dict := none, data := .set #[] 0 (.fresh 0 0 (!w.params.followText "set-order")) }).get? s.heap.objs.size = some { cls := .type "set", dict := none, data := .set #[] 0 (.fresh 0 0 (!w.params.followText "set-order")) } := Heap.get?_push_size _ rfl
      have hT : Shared.TypeIs { s with heap := s.heap.push { cls := .type "set", dict := none, data := .set #[] 0 (.fresh 0 0 (!w.params.followText "set-order")) } } (.ref s.heap.objs.size) "set" := ⟨_, hS, rfl⟩
      have hli := F.called_set.init.lookup
      have hbi := F.called_set.init.bind (.ref s.heap.objs.size)
      repeat (any_goals (first | assumption | wp_step))

      refine codeAny_mono (codeAny_call_builtin (R := wants (fun r s₂ => r = .none ∧ ∃ h' tk c, s₂ = { s with heap := h', toks := tk } ∧ SetR w h' s.heap.objs.size (fun j => decide (j ∈ ns)) c ∧ c ≤ ns.length ∧
          (∀ b o, s.heap.get? b = some o → h'.get? b = some o)) E) F.called_set.init.plain F.entry_set_init (check_set_init_1 hT ?_)) fun r₂ s₂ hr₂ => ?_
      · obtain ⟨ol, hol, hcl, nl, hdl⟩ := hl
        obtain ⟨ocls, odict, odata, oslots⟩ := ol
        simp only at hcl hdl
        subst hcl; subst hdl
        have hol' : (s.heap.push { cls := .type "set", dict := none, data := .set #[] 0 (.fresh 0 0 (!w.params.followText "set-order")) }).get? l = some { cls := .type "list", dict := odict, data := .seq items nl, slots := oslots } := Heap.get?_push_of_some _ hol
        have hsls := F.sub_list_set
        have hslf := F.sub_list_frozenset
        have hne : (Value.type "list" == Value.type "dict") = false := by decide
        have hl1 : (s.heap.push { cls := .type "set", dict := none, data := .set #[] 0 (.fresh 0 0 (!w.params.followText "set-order")) }).IsList l items := ⟨_, hol', rfl, nl, rfl⟩
        unfold Builtin.«set.__init__» noKeywords Builtin.Frozenset.updateFrom
        generalize hPI : pyIter = PI
        wp_walk
        subst hPI

        refine wpAny_pyIter_list hl1 ?_
        refine wpAny_bind (wpAny_runValue ?_)
        have hlS : l < s.heap.objs.size := Heap.lt_size hol
        have hh3 : A.in1.in1.in1.handled = none := by simp [hh]
        have hz1 : (s.heap.push { cls := .type "set", dict := none, data := .set #[] 0 (.fresh 0 0 (!w.params.followText "set-order")) }).objs.size = s.heap.objs.size + 1 := Heap.size_push ..
        have hneI : l ≠ (s.heap.push { cls := .type "set", dict := none, data := .set #[] 0 (.fresh 0 0 (!w.params.followText "set-order")) }).objs.size := by
          rw [Heap.size_push]; exact Nat.ne_of_lt (Nat.lt_succ_of_lt hlS)
        have hSf : s.heap.objs.size ∉ [(s.heap.push { cls := .type "set", dict := none, data := .set #[] 0 (.fresh 0 0 (!w.params.followText "set-order")) }).objs.size, l] := by
          rw [Heap.size_push]; simp only [List.mem_cons, List.mem_singleton, List.not_mem_nil, or_false, not_or]
          exact ⟨Nat.ne_of_lt (Nat.lt_succ_self _), Nat.ne_of_gt hlS⟩
        have hval : ∀ (i : Nat) (v : Value), items[i]? = some v → ∃ k t, ns[i]? = some k ∧ v = .int k t := fun i v hv => by
          have hi : i < ns.length := by rw [← hisz]; exact (Array.getElem?_eq_some_iff.mp hv).1
          obtain ⟨t, e⟩ := PyProof.Rows.IntsAre.int_at hit i v (by rw [Array.getElem?_toList]; exact hv)
          refine ⟨ns[i], t, List.getElem?_eq_getElem hi, ?_⟩
          rw [e, List.getD_eq_getElem?_getD, List.getElem?_eq_getElem hi] <;> rfl
        refine set_update_ints ((Walks.list hh3 _ l hneI items).toS) s.heap.objs.size
          hSf ns hisz hb hval (items.size - 0) 0 _ (by omega) (Nat.zero_le _)
          ⟨⟨_, Heap.get?_push_size _ rfl, rfl, rfl⟩, (hl1.push _)⟩ ?hS0 ?hR
        case hS0 =>
          have hget : ((s.heap.push { cls := .type "set", dict := none, data := .set #[] 0 (.fresh 0 0 (!w.params.followText "set-order")) }).push { cls := .type "list_iterator", data := .fields #[.ref l, .int 0 0] }).get? s.heap.objs.size
              = some { cls := .type "set", dict := none, data := .set #[] 0 (.fresh 0 0 (!w.params.followText "set-order")) } := Heap.get?_push_of_some _ hS
          exact ⟨0, Nat.le_refl 0, setR_new_at hget⟩
        case hR =>
          intro s' c' hm hc' hS'
          obtain ⟨h', g2, d', tk', os'⟩ := s'
          have eg : g2 = s.gens := hm.gens
          have ed : d' = s.drawn := hm.drawn
          have eo : os' = s.os := hm.os
          subst eg; subst ed; subst eo
          show wpAny _ _ _ _ _ _
          refine wpAny_pure ?_
          show wpAny _ _ (ret Value.none) _ _ _
          rw [hisz] at hc'
          refine wpAny_pure ⟨rfl, h', tk', c', rfl, hS', hc', fun b o e => ?_⟩
          have hb0 : b < s.heap.objs.size := Heap.lt_size e
          have hb1 : b ≠ s.heap.objs.size := Nat.ne_of_lt hb0
          have hb2 : b ≠ (s.heap.push { cls := .type "set", dict := none, data := .set #[] 0 (.fresh 0 0 (!w.params.followText "set-order")) }).objs.size := by
            rw [Heap.size_push]; exact Nat.ne_of_lt (Nat.lt_succ_of_lt hb0)
          exact hm.heap b o (by simp only [List.mem_cons, List.mem_singleton, List.not_mem_nil, or_false, not_or]; exact ⟨hb1, hb2⟩) (Heap.get?_push_of_some _ (Heap.get?_push_of_some _ e))

      · cases r₂ with
        | error e => exact hr₂
        | ok fl₂ =>
          cases fl₂ with
          | ret r =>
            obtain ⟨rfl, h', tk, c', rfl, hS', hc', hk'⟩ := hr₂
            repeat (any_goals (first | assumption | wp_step))
            exact h _ _ _ hS' hc' hk'
          | _ => exact hr₂.elim
    | _ => exact hr.elim

theorem sorted_setO {S : Int → Bool} {n : Nat} {Q : Value → Shared → Prop} (R : SetR w s.heap a S n) (hh : A.handled = none) (h64 : n ≤ sizeLine)
    (hQ : ∀ s' p (out : Array Value) (c : Nat) (ns : List Int), (∀ b o, s.heap.get? b = some o → s'.heap.get? b = some o) → s'.gens = s.gens → s'.os = s.os → s.heap.objs.size ≤ p →
      s'.heap.get? p = some (seqObj "list" out c) → IntsAre out.toList ns → ns.Pairwise (· < ·) → (∀ k, k ∈ ns ↔ S k = true) → ns.length = n → Q (.ref p) s') :
    wpAny (model P w) A (call (.builtin "sorted") [.ref a]) Q E s := by
  obtain ⟨o, es, ep, t, ho, hex, hd, g, nd, hm, hb, hf, hn, hr, hl⟩ := R
  refine Calls.call_function_entry kind_sorted plain_sorted entry_sorted (args_sorted1 _) ?_
  unfold Builtin.«sorted»
  refine wpAny_bind (m := checkCount "sorted" 1 1 _) (wpAny_pure ?_)
  refine wpAny_bind (collect_set (A := A.in1) hh ⟨o, ho, hex.1, hd⟩ hf hb hr hl fun s1 vs k1 hz g1 o1 pm => ?_)
  have hvl : vs.length = n := by rw [pm.length_eq, List.length_map, Array.length_toList]; exact hn
  have hI : IntsAre vs (vs.map Builtin.Re.reRawOf) := ints_of vs fun v hv => by
    obtain ⟨e, he, q⟩ := List.mem_map.mp (pm.mem_iff.mp hv)
    obtain ⟨k, tk, h1, _⟩ := g e he
    exact ⟨k, tk, by rw [← q]; exact h1⟩
  have pk : (vs.map Builtin.Re.reRawOf).Perm (es.toList.map keyOf) := by
    have q := pm.map Builtin.Re.reRawOf
    rw [List.map_map] at q
    exact q
  refine wpAny_bind (wpAny_newList ?_ (by rw [hvl]; exact h64))
  have hoL : (s1.heap.push (seqObj "list" vs.toArray 0)).get? s1.heap.objs.size = some (seqObj "list" vs.toArray 0) := Heap.get?_push_size _ rfl
  refine wpAny_bind (wpAny_holding (wpAny_call_entry slot_list_sort ⟨_, hoL, rfl⟩ entry_list_sort (SrtO.list_sort_ord SrtO.swo_int hoL (by rw [hvl]; exact h64) (fun h2 => SrtO.ints_sortable hI h2) fun out z1 z2 => ⟨_, rfl, ?_⟩) (args_list_sort _)))
  obtain ⟨a1, a2, a3⟩ := SrtO.ints_out hI z1 z2
  obtain ⟨c, hc⟩ := sortedHeap_at (vs := vs) (out := out.toArray) hoL
  have pn : (out.map SrtO.iv).Perm (es.toList.map keyOf) := a2.trans pk
  refine wpAny_pure ⟨_, rfl, hQ _ s1.heap.objs.size out.toArray c (out.map SrtO.iv) (fun b u e => ?_) g1 o1 hz hc (by simpa using a1) (lt_of_le_nodup (out.map SrtO.iv) a3 (pn.nodup_iff.mpr nd)) (fun k => by rw [pn.mem_iff, ← hm k]) ?_⟩
  · have q := k1 b u e
    have hlt := Heap.lt_size q
    show (sortedHeap (s1.heap.push (seqObj "list" vs.toArray 0)) s1.heap.objs.size vs out.toArray).get? b = some u
    rw [sortedHeap_old (Nat.ne_of_lt hlt) (by rw [size_push']; exact Nat.lt_succ_of_lt hlt)]
    exact Heap.get?_push_of_some _ q
  · rw [pn.length_eq, List.length_map, Array.length_toList]; exact hn
end
def rSetIL (K : PySem.W.Frag) (w : World) : List V → Hp → VK → Prop := fun xs H Q => ∃ (l : Addr) (ns : List Int), xs = [V.ref l] ∧ (SqL K H l (ns.map V.int) ∨ SqT K H l (ns.map V.int)) ∧ ns.length ≤ 4000 ∧
  ∀ (a : Addr) (n : Nat), H a = none → n ≤ ns.length → Q (.ref a) (upd H a (SetO w a (fun j => decide (j ∈ ns)) n))
theorem cr_setIL {X : Cx} (hc : X.calm = true) : CallR X (.type "set") (rSetIL X.K X.w) := by
  intro pins s σ H xs us Q I r h
  obtain ⟨l, ns, rfl, hl, hf, q⟩ := h
  rw [Vals.ref1 r]
  have hn : H s.heap.objs.size = none := I.hok.fresh (Nat.le_refl _)
  rcases hl with hl | hl
  · obtain ⟨its, rv, pl, hz⟩ := I.list hl
    have hi : IntsAre its.toArray.toList ns := ints_of_vals rv
    refine call_set_lstI ns (I.ok.hd hc) pl.isList hi (by unfold scanBound; omega) fun h' tk c R1 hcn k => ?_
    exact ⟨.ref s.heap.objs.size, _, I.laid (t' := tk) k (Nat.le_refl _) (setO_new R1), rfl, q _ c hn hcn⟩
  · obtain ⟨its, rv, pt, hz⟩ := I.tuple hl
    have hi : IntsAre its.toArray.toList ns := ints_of_vals rv
    refine call_set_tupI ns (I.ok.hd hc) (show s.heap.IsTuple l its.toArray from pt) hi (by unfold scanBound; omega) fun h' tk c R1 hcn k => ?_
    exact ⟨.ref s.heap.objs.size, _, I.laid (t' := tk) k (Nat.le_refl _) (setO_new R1), rfl, q _ c hn hcn⟩
def rSortedSetO (w : World) : List V → Hp → VK → Prop := fun vs H Q => ∃ (a : Addr) (S : Int → Bool) (n : Nat), vs = [V.ref a] ∧ H a = some (SetO w a S n) ∧ n ≤ sizeLine ∧
  ∀ (ns : List Int) (p : Addr), ns.Pairwise (· < ·) → (∀ k : Int, k ∈ ns ↔ S k = true) → H p = none → Q (.ref p) (upd H p (.lst (ns.map V.int)))
theorem cr_sortedSetO {X : Cx} (hc : X.calm = true) : CallR X (.builtin "sorted") (rSortedSetO X.w) := by
  intro pins s σ H vs us Q I r h
  obtain ⟨a, S, n, rfl, ha, h64, q⟩ := h
  have R := setO_get I ha
  rw [Vals.ref1 r]
  refine sorted_setO R (I.ok.hd hc) h64 fun s' p out c ns k g o hp hg hi hs hm hl => ?_
  have hlen : (ns.map V.int).length ≤ sizeLine := by rw [List.length_map, hl]; exact h64
  have hn : H p = none := I.hok.fresh hp
  have J : Inv X pins σ (upd H p (.lst (ns.map V.int))) { s with heap := s'.heap, gens := s'.gens, drawn := s'.drawn, toks := s'.toks } :=
    I.call (ch := []) (Un.laid k hp hn) (I.hok.laid k hp ⟨hlen, out.toList, c, vals_of_ints hi, hg⟩) (by rw [g]; exact I.bare) (fun _ z => nomatch z)
  have e : s' = { s with heap := s'.heap, gens := s'.gens, drawn := s'.drawn, toks := s'.toks } := by
    cases s'
    cases s
    cases o
    rfl
  rw [e]
  exact ⟨.ref p, _, J, rfl, q ns p hs hm hn⟩
/-- sorted(set(..)): the ints once each, rising -/
def opSortSet : D → (Res → Prop) → Prop
  | .list ds, k => ∃ ns, intsD ds = some ns ∧ ns.length ≤ 4000 ∧ ∀ ms : List Int, ms.Pairwise (· < ·) → (∀ j, j ∈ ms ↔ j ∈ ns) → k (.fr (.list (ms.map .int)))
  | .tuple ds, k => ∃ ns, intsD ds = some ns ∧ ns.length ≤ 4000 ∧ ∀ ms : List Int, ms.Pairwise (· < ·) → (∀ j, j ∈ ms ↔ j ∈ ns) → k (.fr (.list (ms.map .int)))
  | _, _ => False
section
variable {X : Cx} {C : Cc} {pos p p2 q : Pos} {e : Expr} {φ : WE}
theorem s_sortset (xc : Xc X C) (hg : Gl X "sorted") (hm : X.mg "sorted" = none) (hg2 : Gl X "set") (hm2 : X.mg "set" = none) (ha : SimE X C e φ)
    (na : starEach [e] X.env = (false, eval e X.env) :: starEach [] X.env := by rfl)
    (nb : starEach [.Call (.Name "set" p2) [e] [] q] X.env = (false, eval (.Call (.Name "set" p2) [e] [] q) X.env) :: starEach [] X.env := by rfl) (hpl : (backTo pos (starEach [] X.env)).any (·.1) = false := by rfl) (hpl2 : (backTo q (starEach [] X.env)).any (·.1) = false := by rfl) :
    SimE X C (.Call (.Name "sorted" p) [.Call (.Name "set" p2) [e] [] q] [] pos) (wUn opSortSet φ) :=
  (pe_callB (cr_sortedSetO xc.calm) hg hm (by decide +kernel) (pa_cons (pe_callTy (cr_setIL xc.calm) hg2 hm2 (by decide +kernel) (pa_cons ha pa_nil na) (by decide) (by decide) na hpl2) pa_nil nb) (by decide) (by decide) nb hpl).imp fun σ H Q ⟨ρ, w, Q', st, h, k⟩ => by
    refine ⟨ρ, w, _, st, h, fun r1 ρ1 w1 x H1 P1 R1 F1 h1 => ?_⟩
    have c := R1.cont
    have main : ∀ (l : Addr) (ns : List Int), x = .ref l → (SqL X.K H1 l (ns.map V.int) ∨ SqT X.K H1 l (ns.map V.int)) → ns.length ≤ 4000 → (∀ ms : List Int, ms.Pairwise (· < ·) → (∀ j, j ∈ ms ↔ j ∈ ns) → Q' (.fr (.list (ms.map .int))) ρ1) →
        rSetIL X.K X.w [x] H1 fun v H2 => rSortedSetO X.w [v] H2 Q := by
      intro l ns e1 hs hl hq
      subst e1
      refine ⟨l, ns, rfl, hs, hl, fun a n ha hn => ⟨a, _, n, rfl, upd_same, by rw [sl16]; omega, fun ms p' h1 h2 hp' => ?_⟩⟩
      have L := P1.st.lay (o := SetO X.w a (fun j => decide (j ∈ ns)) n) ha
      obtain ⟨P, R, F⟩ := L.st.newL hp' (RepAll.of_ints (K := C.K) (W := w1.W) (ns := ms))
      have P2 := P1.trans st (L.trans P1.st P)
      exact k _ ρ1 w1 _ _ P2 R (F.back st (P1.trans st L)) (hq ms h1 fun j => by rw [h2 j, decide_eq_true_eq])
    revert h1 c
    generalize r1.d = d
    intro h1 c
    unfold opSortSet at h1
    split at h1
    · obtain ⟨ns, e1, h2, h3⟩ := h1
      obtain ⟨a, vs, e2, h4, r2⟩ := c.list P1.st
      exact main a ns e2 (.inl (SqL.of (by rw [h4, ints_at r2 e1]))) h2 h3
    · obtain ⟨ns, e1, h2, h3⟩ := h1
      obtain ⟨a, vs, e2, h4, r2, _⟩ := c.tuple P1.st
      rw [ints_at r2 e1] at h4
      exact main a ns e2 (.inr (by rw [xc.hK]; exact h4)) h2 h3
    · exact h1.elim
end
theorem def_false {P : Program} {w : World} {K : PySem.W.Frag} {mg : Str → Option Value} {base : Heap} {x : Str} {k : Nat} {ps : List Str} {cup : Bool} {S : FSpec} {st : Stmt} {f : Addr} {fd : FuncData} (F : L2.Fun K x x st f fd) (m : mg x = some (.ref f)) (hb : Binds K fd ps []) (h : ∀ ds q, ¬ S ds q) :
    Def P w K mg base x k ps (spOf K cup S) := by
  have no : ∀ vs H Q E, ¬ spOf K cup S vs H Q E := fun vs H Q E g => by
    obtain ⟨_, ds, _, _, _, _, _, q, hq, _⟩ := g
    exact h ds q hq
  exact mk_def F m hb ⟨fun vs H Q E g => absurd g (no vs H Q E), fun A outer s H args us vs Q E _ _ _ _ g => absurd g (no vs H Q E)⟩
end PL

set_option Elab.async false
set_option linter.all false
set_option maxRecDepth 100000
set_option maxHeartbeats 4000000
namespace PL
open PySem L2
section
variable {X : Cx} {C : Cc} {pos : Pos}
theorem s_compX (xc : Xc X C) {elt tg iter : Expr} {ifs : List Expr} {scope : Scope} (own : List (Str × Nat)) {js : List Nat} {it : WI} {g : WG} {c : WT} {e : WE}
    (hi : SimI X C tg iter it) (ok : blkC X.N X.env.scope scope own = true)
    (hg : ∀ (s : Shared) (H : Hp) (Ca : Addr) (cl : List (Str × Addr)) (fp : List Addr), Xc (X.blk s H scope (compEnvC scope cl Ca X.env) fp) C → PG (X.blk s H scope (compEnvC scope cl Ca X.env) fp) tg (semG C js g))
    (hj : ∀ j ∈ js, j ∈ own.map (·.2))
    (ht : ∀ (s : Shared) (H : Hp) (Ca : Addr) (cl : List (Str × Addr)) (fp : List Addr), Xc (X.blk s H scope (compEnvC scope cl Ca X.env) fp) C → SimTs (X.blk s H scope (compEnvC scope cl Ca X.env) fp) C ifs c)
    (he : ∀ (s : Shared) (H : Hp) (Ca : Addr) (cl : List (Str × Addr)) (fp : List Addr), Xc (X.blk s H scope (compEnvC scope cl Ca X.env) fp) C → SimE (X.blk s H scope (compEnvC scope cl Ca X.env) fp) C elt e)
    (hs : ∀ x, foldedSetIterable iter X.env x = pure x := by intro _; rfl) : SimE X C (.ListComp elt [⟨tg, iter, ifs, 0⟩] scope pos) (wComp (own.map (·.2)) it g c e) :=
  s_comp xc hi (blkOk_by ok) hj (fun s H Ca cl fp => hg s H Ca cl fp (xc.blk s H scope _ fp)) (fun s H Ca cl fp => ht s H Ca cl fp (xc.blk s H scope _ fp)) (fun s H Ca cl fp => he s H Ca cl fp (xc.blk s H scope _ fp)) hs
theorem st_setcX (xc : Xc X C) (i : Nat) (own : Bool) {y : Str} {py : Pos} {elt tg iter : Expr} {ifs : List Expr} {scope : Scope} (ow : List (Str × Nat)) {js : List Nat} {pos pos' : Pos} {it : WI} {g : WG} {c : WT} {b : WE}
    (hi : SimI X C tg iter it) (ok : blkC X.N X.env.scope scope ow = true)
    (hg : ∀ (s : Shared) (H : Hp) (Ca : Addr) (cl : List (Str × Addr)) (fp : List Addr), Xc (X.blk s H scope (compEnvC scope cl Ca X.env) fp) C → PG (X.blk s H scope (compEnvC scope cl Ca X.env) fp) tg (semG C js g))
    (hj : ∀ j ∈ js, j ∈ ow.map (·.2))
    (ht : ∀ (s : Shared) (H : Hp) (Ca : Addr) (cl : List (Str × Addr)) (fp : List Addr), Xc (X.blk s H scope (compEnvC scope cl Ca X.env) fp) C → SimTs (X.blk s H scope (compEnvC scope cl Ca X.env) fp) C ifs c)
    (he : ∀ (s : Shared) (H : Hp) (Ca : Addr) (cl : List (Str × Addr)) (fp : List Addr), Xc (X.blk s H scope (compEnvC scope cl Ca X.env) fp) C → SimE (X.blk s H scope (compEnvC scope cl Ca X.env) fp) C elt b)
    (hy : X.N[i]? = some y := by rfl) (hyl : X.env.scope.names.lookup y = some .local := by rfl) (hsw : swapsWith (.ListComp elt [⟨tg, iter, ifs, 0⟩] scope pos) (some (.Name y py)) pos'.line X.env = pure true := by exact sw_true rfl rfl rfl (by kernel_rfl))
    (hs : ∀ x, foldedSetIterable iter X.env x = pure x := by intro _; rfl) : SimS X C (.Assign [.Name y py] (.ListComp elt [⟨tg, iter, ifs, 0⟩] scope pos) pos') (wSet i own (wComp (ow.map (·.2)) it g c b)) :=
  st_setc xc i own hi (blkOk_by ok) hj (fun s H Ca cl fp => hg s H Ca cl fp (xc.blk s H scope _ fp)) (fun s H Ca cl fp => ht s H Ca cl fp (xc.blk s H scope _ fp)) (fun s H Ca cl fp => he s H Ca cl fp (xc.blk s H scope _ fp)) hy hyl hsw hs
end
end PL

set_option Elab.async false
set_option linter.all false
set_option maxRecDepth 100000
set_option maxHeartbeats 4000000
namespace PL
open PySem L2
/-! ### the plain side: rules for loops -/
theorem forL_ind {g : WG} {b : WS} {E : PEnds} (P : List D → Sl → Prop) (hs : ∀ d ds ρ, P (d :: ds) ρ → (∀ ρ', P ds ρ' → forL g b E ds ρ') → g d ρ fun ρ1 => b { E with nx := forL g b E ds, ct := forL g b E ds, bk := E.nx } ρ1)
    (hd : ∀ ρ, P [] ρ → E.nx ρ) : ∀ items ρ, P items ρ → forL g b E items ρ
  | [], ρ, h => hd ρ h
  | d :: ds, ρ, h => hs d ds ρ h fun ρ' h' => forL_ind P hs hd ds ρ' h'
/-- a comprehension whose items are told by a function -/
theorem compL_det {tg : WG} {c : WT} {e : WE} {ρ0 : Sl} (f : D → Option D) : ∀ (ds acc : List D) (Q : List D → Prop),
    (∀ d ∈ ds, ∀ (Kt : D → Prop) (Kf : Prop), (match f d with | some v => Kt v | none => Kf) → tg d ρ0 fun ρ2 => c ρ2 fun b ρ3 => ρ3 = ρ2 ∧ if b = true then e ρ2 fun r ρ4 => ρ4 = ρ2 ∧ nb r ∧ Kt r.d else Kf) →
    Q (acc ++ ds.filterMap f) → compL tg c e ρ0 ds acc Q
  | [], acc, Q, _, q => by simpa [compL] using q
  | d :: ds, acc, Q, h, q => by
    unfold compL
    refine h d List.mem_cons_self (fun v => compL tg c e ρ0 ds (acc ++ [v]) Q) (compL tg c e ρ0 ds acc Q) ?_
    cases e1 : f d with
    | none =>
      refine compL_det f ds acc Q (fun d' hd => h d' (List.mem_cons_of_mem _ hd)) ?_
      rw [List.filterMap_cons_none e1] at q; exact q
    | some v =>
      refine compL_det f ds (acc ++ [v]) Q (fun d' hd => h d' (List.mem_cons_of_mem _ hd)) ?_
      rw [List.filterMap_cons_some e1] at q
      simpa using q
theorem compL_map {tg : WG} {e : WE} {ρ0 : Sl} (f : D → D) (ds acc : List D) (Q : List D → Prop)
    (h : ∀ d ∈ ds, ∀ Kt : D → Prop, Kt (f d) → tg d ρ0 fun ρ2 => e ρ2 fun r ρ4 => ρ4 = ρ2 ∧ nb r ∧ Kt r.d)
    (q : Q (acc ++ ds.map f)) : compL tg wYes e ρ0 ds acc Q := by
  refine compL_det (fun d => some (f d)) ds acc Q (fun d hd Kt Kf k => ?_) (by simpa using q)
  simp only [wYes, if_true, true_and]
  exact h d hd Kt k
/-- .. by a relation: what is drawn -/
theorem compL_rel {tg : WG} {c : WT} {e : WE} {ρ0 : Sl} (P : D → D → Prop) (N : D → Prop) : ∀ (ds acc : List D) (Q : List D → Prop),
    (∀ d ∈ ds, ∀ (Kt : D → Prop) (Kf : Prop), (∀ v, P d v → Kt v) → (N d → Kf) → tg d ρ0 fun ρ2 => c ρ2 fun b ρ3 => ρ3 = ρ2 ∧ if b = true then e ρ2 fun r ρ4 => ρ4 = ρ2 ∧ nb r ∧ Kt r.d else Kf) →
    (∀ out : List D, out.length ≤ ds.length → (∀ v ∈ out, ∃ d ∈ ds, P d v) → Q (acc ++ out)) → compL tg c e ρ0 ds acc Q
  | [], acc, Q, _, q => by simpa [compL] using q [] (by simp) (by simp)
  | d :: ds, acc, Q, h, q => by
    unfold compL
    refine h d List.mem_cons_self (fun v => compL tg c e ρ0 ds (acc ++ [v]) Q) (compL tg c e ρ0 ds acc Q) (fun v hv => ?_) fun _ => ?_
    · refine compL_rel P N ds (acc ++ [v]) Q (fun d' hd => h d' (List.mem_cons_of_mem _ hd)) fun out h1 h2 => ?_
      have := q (v :: out) (by simp; omega) fun u hu => ?_
      · simpa using this
      · rcases List.mem_cons.mp hu with e1 | hu
        · exact ⟨d, List.mem_cons_self, e1 ▸ hv⟩
        · obtain ⟨d', m, p⟩ := h2 u hu
          exact ⟨d', List.mem_cons_of_mem _ m, p⟩
    · refine compL_rel P N ds acc Q (fun d' hd => h d' (List.mem_cons_of_mem _ hd)) fun out h1 h2 => q out (by simp; omega) fun u hu => ?_
      obtain ⟨d', m, p⟩ := h2 u hu
      exact ⟨d', List.mem_cons_of_mem _ m, p⟩
theorem mem_rangeD {lo : Int} {n : Nat} {d : D} (h : d ∈ rangeD lo n) : ∃ i : Nat, i < n ∧ d = .int (lo + i) := by
  unfold rangeD at h
  obtain ⟨i, hi, rfl⟩ := List.mem_map.mp h
  exact ⟨i, List.mem_range.mp hi, rfl⟩
theorem rangeD_ints (lo : Int) (n : Nat) : rangeD lo n = ((List.range n).map fun (i : Nat) => lo + (i : Int)).map PyData.int := by
  unfold rangeD; rw [List.map_map]; rfl
theorem rangeD_succ (lo : Int) (n : Nat) : rangeD lo (n + 1) = .int lo :: rangeD (lo + 1) n := by
  unfold rangeD
  rw [List.range_succ_eq_map, List.map_cons, List.map_map]
  refine congr (congrArg _ (by simp)) (List.map_congr_left fun i _ => ?_)
  simp only [Function.comp]
  congr 1
  omega

/-! ### unfolding, by simp: what is stuck is looked at first, what comes behind it last -/
structure Kx (α : Sort _) where
  f : α
set_option checkBinderAnnotations false
def vlk (o : Option (Option SV)) (ρ : Sl) [Q : Kx (Res → Sl → Prop)] : Prop := match o with | some (some (.val d)) => Q.f (.im d) ρ | some (some (.own d)) => Q.f (.bo d) ρ | _ => False
def mlk (o : Option (Option SV)) (i : Nat) (ρ : Sl) [Q : Kx (Res → Sl → Prop)] : Prop := match o with | some (some (.val d)) => Q.f (.im d) ρ | some (some (.own d)) => Q.f (.fr d) (ρ.set i none) | _ => False
def flk (o : Option (Option SV)) (i : Nat) (ρ : Sl) [Q : Kx (Res → Sl → Prop)] : Prop := match o with | some (some (.val d)) => Q.f (.im d) ρ | some (some (.own d)) => Q.f (.im d) (ρ.set i (some (.val d))) | _ => False
def app2 (f : D → D → (Res → Prop) → Prop) (x y : D) [k : Kx (Res → Prop)] : Prop := f x y k.f
def app1 (f : D → (Res → Prop) → Prop) (x : D) [k : Kx (Res → Prop)] : Prop := f x k.f
def appS (f : FSpec) (x : List D) [k : Kx (Res → Prop)] : Prop := f x k.f
def bex (d : D) [P : Kx (Bool → Prop)] : Prop := ∃ b, d = .bool b ∧ P.f b
def tex (d : D) [P : Kx (Bool → Prop)] : Prop := ∃ b, tru d = some b ∧ P.f b
def iex (d : D) [P : Kx (Int → Prop)] : Prop := ∃ b, d = .int b ∧ P.f b
def sex (d : D) [P : Kx (List D → Prop)] : Prop := ∃ b, seqD d = some b ∧ P.f b
def lex (o : Option (Option SV)) [P : Kx (List D → Prop)] : Prop := ∃ ds, o = some (some (.own (.list ds))) ∧ P.f ds
def oex {α : Type} (o : Option α) [P : Kx (α → Prop)] : Prop := ∃ a, o = some a ∧ P.f a
def stp (ρ : Sl) [k : Kx (Sl → Prop)] : Prop := k.f ρ
def sl3 (d : D) (lo hi : Option Int) [k : Kx (Res → Prop)] : Prop := opSl d lo hi k.f
def compX (tg : WG) (c : WT) (e : WE) (ρ : Sl) (ds acc : List D) [Q : Kx (List D → Prop)] : Prop := compL tg c e ρ ds acc Q.f
def forX (g : WG) (b : WS) (ds : List D) (ρ : Sl) [E : Kx PEnds] : Prop := forL g b E.f ds ρ
def whileX (c : WT) (b : WS) (ρ : Sl) [E : Kx PEnds] : Prop := wWhile c b E.f ρ
def newX (i j : Nat) (b : WS) (ρ : Sl) [E : Kx PEnds] : Prop := wNew i j b E.f ρ
@[simp] theorem vlk_v {d : D} {ρ : Sl} {Q : Kx (Res → Sl → Prop)} : @vlk (some (some (.val d))) ρ Q = Q.f (.im d) ρ := rfl
@[simp] theorem vlk_o {d : D} {ρ : Sl} {Q : Kx (Res → Sl → Prop)} : @vlk (some (some (.own d))) ρ Q = Q.f (.bo d) ρ := rfl
@[simp] theorem mlk_v {d : D} {i : Nat} {ρ : Sl} {Q : Kx (Res → Sl → Prop)} : @mlk (some (some (.val d))) i ρ Q = Q.f (.im d) ρ := rfl
@[simp] theorem mlk_o {d : D} {i : Nat} {ρ : Sl} {Q : Kx (Res → Sl → Prop)} : @mlk (some (some (.own d))) i ρ Q = @stp (ρ.set i none) ⟨Q.f (.fr d)⟩ := rfl
@[simp] theorem flk_v {d : D} {i : Nat} {ρ : Sl} {Q : Kx (Res → Sl → Prop)} : @flk (some (some (.val d))) i ρ Q = Q.f (.im d) ρ := rfl
@[simp] theorem flk_o {d : D} {i : Nat} {ρ : Sl} {Q : Kx (Res → Sl → Prop)} : @flk (some (some (.own d))) i ρ Q = @stp (ρ.set i (some (.val d))) ⟨Q.f (.im d)⟩ := rfl
@[simp] theorem bex_b {p : Bool} {P : Kx (Bool → Prop)} : @bex (.bool p) P ↔ P.f p := ⟨fun ⟨b, e, h⟩ => by cases e; exact h, fun h => ⟨p, rfl, h⟩⟩
@[simp] theorem tex_b {p : Bool} {P : Kx (Bool → Prop)} : @tex (.bool p) P ↔ P.f p := ⟨fun ⟨b, e, h⟩ => by cases e; exact h, fun h => ⟨p, rfl, h⟩⟩
@[simp] theorem tex_i {p : Int} {P : Kx (Bool → Prop)} : @tex (.int p) P ↔ P.f (p != 0) := ⟨fun ⟨b, e, h⟩ => by cases e; exact h, fun h => ⟨_, rfl, h⟩⟩
@[simp] theorem tex_l {p : List D} {P : Kx (Bool → Prop)} : @tex (.list p) P ↔ P.f (!p.isEmpty) := ⟨fun ⟨b, e, h⟩ => by cases e; exact h, fun h => ⟨_, rfl, h⟩⟩
@[simp] theorem tex_n {P : Kx (Bool → Prop)} : @tex .none P ↔ P.f false := ⟨fun ⟨b, e, h⟩ => by cases e; exact h, fun h => ⟨_, rfl, h⟩⟩
@[simp] theorem iex_i {p : Int} {P : Kx (Int → Prop)} : @iex (.int p) P ↔ P.f p := ⟨fun ⟨b, e, h⟩ => by cases e; exact h, fun h => ⟨p, rfl, h⟩⟩
@[simp] theorem sex_l {p : List D} {P : Kx (List D → Prop)} : @sex (.list p) P ↔ P.f p := ⟨fun ⟨b, e, h⟩ => by cases e; exact h, fun h => ⟨p, rfl, h⟩⟩
@[simp] theorem sex_t {p : List D} {P : Kx (List D → Prop)} : @sex (.tuple p) P ↔ P.f p := ⟨fun ⟨b, e, h⟩ => by cases e; exact h, fun h => ⟨p, rfl, h⟩⟩
@[simp] theorem lex_o {p : List D} {P : Kx (List D → Prop)} : @lex (some (some (.own (.list p)))) P ↔ P.f p := ⟨fun ⟨b, e, h⟩ => by cases e; exact h, fun h => ⟨p, rfl, h⟩⟩
@[simp] theorem oex_o {α : Type} {p : α} {P : Kx (α → Prop)} : @oex α (some p) P ↔ P.f p := ⟨fun ⟨b, e, h⟩ => by cases e; exact h, fun h => ⟨p, rfl, h⟩⟩
@[simp] theorem stp_o {ρ : Sl} {k : Kx (Sl → Prop)} : @stp ρ k = k.f ρ := rfl
section
variable {ρ : Sl} {Q : Res → Sl → Prop} {T : Bool → Sl → Prop} {A : List D → Sl → Prop} {R : List D → Sl → Prop} {E : PEnds} {a b c e : WE} {s t : WT} {u : WA} {l h : WO} {x y z : WS} {i j n : Nat} {d d2 : D} {o : Bool} {g : WG} {gs : WGs} {it : WI} {k : Res → Prop} {S : FSpec} {f f2 : D → D → (Res → Prop) → Prop} {f1 : D → (Res → Prop) → Prop}
@[simp ↓] theorem u_C : wC d ρ Q = Q (.im d) ρ := rfl
@[simp ↓] theorem u_var : wVar i ρ Q = @vlk ρ[i]? ρ ⟨Q⟩ := rfl
@[simp ↓] theorem u_mv : wMv i ρ Q = @mlk ρ[i]? i ρ ⟨Q⟩ := rfl
@[simp ↓] theorem u_fz : wFz i ρ Q = @flk ρ[i]? i ρ ⟨Q⟩ := rfl
@[simp ↓] theorem u_bin : wBin f a b ρ Q = a ρ fun r1 ρ1 => b ρ1 fun r2 ρ2 => @app2 f r1.d r2.d ⟨fun r => Q r ρ2⟩ := rfl
@[simp ↓] theorem u_un : wUn f1 a ρ Q = a ρ fun r1 ρ1 => @app1 f1 r1.d ⟨fun r => Q r ρ1⟩ := rfl
@[simp ↓] theorem u_T : wT a ρ T = a ρ fun r ρ' => @bex r.d ⟨fun b => T b ρ'⟩ := rfl
@[simp ↓] theorem u_chain : wChain f f2 a b c ρ Q = a ρ fun r1 ρ1 => b ρ1 fun r2 ρ2 => @app2 f r1.d r2.d ⟨fun r => @bex r.d ⟨fun k => if k = true then c ρ2 fun r3 ρ3 => @app2 f2 r2.d r3.d ⟨fun r => Q r ρ3⟩ else Q (.im (.bool false)) ρ2⟩⟩ := rfl
@[simp ↓] theorem u_and : wAnd a b ρ Q = a ρ fun r ρ1 => @bex r.d ⟨fun k => if k = true then b ρ1 Q else Q (.im (.bool false)) ρ1⟩ := rfl
@[simp ↓] theorem u_or : wOr a b ρ Q = a ρ fun r ρ1 => @bex r.d ⟨fun k => if k = true then Q (.im (.bool true)) ρ1 else b ρ1 Q⟩ := rfl
@[simp ↓] theorem u_not : wNot a ρ Q = a ρ fun r ρ1 => @bex r.d ⟨fun k => Q (.im (.bool (!k))) ρ1⟩ := rfl
@[simp ↓] theorem u_andT : wAndT s t ρ T = s ρ fun k ρ1 => if k = true then t ρ1 T else T false ρ1 := rfl
@[simp ↓] theorem u_orT : wOrT s t ρ T = s ρ fun k ρ1 => if k = true then T true ρ1 else t ρ1 T := rfl
@[simp ↓] theorem u_notT : wNotT s ρ T = s ρ fun k ρ1 => T (!k) ρ1 := rfl
@[simp ↓] theorem u_if : wIf s a b ρ Q = s ρ fun k ρ1 => if k = true then a ρ1 Q else b ρ1 Q := rfl
@[simp ↓] theorem u_tr : wTr a ρ T = a ρ fun r ρ' => @tex r.d ⟨fun b => T b ρ'⟩ := rfl
@[simp ↓] theorem u_nil : wNil ρ A = A [] ρ := rfl
@[simp ↓] theorem u_cons : wCons a u ρ A = a ρ fun r ρ1 => nb r ∧ u ρ1 fun ds ρ2 => A (r.d :: ds) ρ2 := rfl
@[simp ↓] theorem u_tup : wTup u ρ Q = u ρ fun ds ρ1 => ds.length ≤ 16777216 ∧ Q (.im (.tuple ds)) ρ1 := rfl
@[simp ↓] theorem u_lst : wLst u ρ Q = u ρ fun ds ρ1 => ds.length ≤ 16777216 ∧ Q (.fr (.list ds)) ρ1 := rfl
@[simp ↓] theorem u_noP {T : Option Int → Sl → Prop} : wNoP ρ T = T none ρ := rfl
@[simp ↓] theorem u_P {T : Option Int → Sl → Prop} : wP a ρ T = a ρ fun r ρ' => @iex r.d ⟨fun i => T (some i) ρ'⟩ := rfl
@[simp ↓] theorem u_sl : wSl a l h ρ Q = a ρ fun r ρ1 => l ρ1 fun lo ρ2 => h ρ2 fun hi ρ3 => @sl3 r.d lo hi ⟨fun r => Q r ρ3⟩ := rfl
@[simp ↓] theorem u_isi {T : String} : wIsi T a ρ Q = a ρ fun r ρ1 => Q (.im (.bool (isiD T r.d))) ρ1 := rfl
@[simp ↓] theorem u_call : wCall S u ρ Q = u ρ fun ds ρ1 => @appS S ds ⟨fun r => Q r ρ1⟩ := rfl
@[simp ↓] theorem u_callC : wCallC i S u ρ Q = (ρ[i]? = some (some .cup) ∧ u ρ fun ds ρ1 => @appS S ds ⟨fun r => Q r ρ1⟩) := rfl
@[simp ↓] theorem u_gN {k : Sl → Prop} : gN j d ρ k = @stp (ρ.set j (some (.val d))) ⟨k⟩ := rfl
@[simp ↓] theorem u_gT {ds : List D} {k : Sl → Prop} : gT n gs (.tuple ds) ρ k = (ds.length = n ∧ gs ds ρ k) := rfl
@[simp] theorem u_gT' {ds : List D} {k : Sl → Prop} : gT n gs (.tuple ds) ρ k = (ds.length = n ∧ gs ds ρ k) := rfl
@[simp ↓] theorem u_gs0 {k : Sl → Prop} : gs0 [] ρ k = k ρ := rfl
@[simp ↓] theorem u_gsC {ds : List D} {k : Sl → Prop} : gsC g gs (d :: ds) ρ k = g d ρ fun ρ' => gs ds ρ' k := rfl
@[simp ↓] theorem u_seqI : wSeqI a ρ R = a ρ fun r ρ1 => nb r ∧ @sex r.d ⟨fun ds => R ds ρ1⟩ := rfl
@[simp ↓] theorem u_rng1 : wRng1 a ρ R = a ρ fun r ρ1 => @iex r.d ⟨fun n => -(2 ^ 62) ≤ n ∧ n < 2 ^ 62 ∧ R (rangeD 0 n.toNat) ρ1⟩ := rfl
@[simp ↓] theorem u_rng2 : wRng2 a b ρ R = a ρ fun r ρ1 => b ρ1 fun r' ρ2 => @iex r.d ⟨fun m => @iex r'.d ⟨fun n => (-(2 ^ 62) ≤ m ∧ m < 2 ^ 62 ∧ -(2 ^ 62) ≤ n ∧ n < 2 ^ 62) ∧ R (rangeD m (n - m).toNat) ρ2⟩⟩ := by
  refine congrArg (a ρ) (funext fun r => funext fun ρ1 => congrArg (b ρ1) (funext fun r' => funext fun ρ2 => propext ⟨fun ⟨m, n, e1, e2, h⟩ => ⟨m, e1, n, e2, h⟩, fun ⟨m, e1, n, e2, h⟩ => ⟨m, n, e1, e2, h⟩⟩))
@[simp ↓] theorem u_zip : wZip a b ρ R = a ρ fun r ρ1 => nb r ∧ b ρ1 fun r' ρ2 => nb r' ∧ ((∃ xs ys, r.d = .list xs ∧ r'.d = .list ys ∧ R (pairD xs ys) ρ2) ∨ (∃ xs ys, r.d = .tuple xs ∧ r'.d = .tuple ys ∧ R (pairD xs ys) ρ2)) := rfl
@[simp ↓] theorem u_yes : wYes ρ T = T true ρ := rfl
@[simp ↓] theorem u_comp {vs : List Nat} : wComp vs it g s e ρ Q = it ρ fun items ρ1 => items.length ≤ 16777216 ∧ @compX g s e (wipeP ρ1 vs) items [] ⟨fun acc => Q (.fr (.list acc)) ρ1⟩ := rfl
@[simp ↓] theorem u_skip : wSkip E ρ = E.nx ρ := rfl
@[simp ↓] theorem u_seq : wSeq x y E ρ = x { E with nx := y E } ρ := rfl
@[simp ↓] theorem u_set : wSet i o a E ρ = a ρ fun r ρ1 => nb r ∧ @stp (ρ1.set i (some (svOf o r))) ⟨E.nx⟩ := rfl
@[simp ↓] theorem u_par {oi oj : Bool} : wPar i j oi oj a b E ρ = a ρ fun r ρ1 => nb r ∧ b ρ1 fun r' ρ2 => nb r' ∧ @stp ((ρ2.set i (some (svOf oi r))).set j (some (svOf oj r'))) ⟨E.nx⟩ := rfl
@[simp ↓] theorem u_asg : wAsg a g E ρ = a ρ fun r ρ1 => nb r ∧ g r.d ρ1 E.nx := rfl
@[simp ↓] theorem u_ret : wRet a E ρ = a ρ fun r ρ1 => nb r ∧ E.rt r := rfl
@[simp ↓] theorem u_retN : wRetN E ρ = E.rt (.im .none) := rfl
@[simp ↓] theorem u_exp : wExp a E ρ = a ρ fun _ ρ1 => E.nx ρ1 := rfl
@[simp ↓] theorem u_ifS : wIfS s x y E ρ = s ρ fun k ρ1 => if k = true then x E ρ1 else y E ρ1 := rfl
@[simp ↓] theorem u_never : wNever E ρ = False := rfl
@[simp ↓] theorem u_brk : wBrk E ρ = E.bk ρ := rfl
@[simp ↓] theorem u_cnt : wCnt E ρ = E.ct ρ := rfl
@[simp ↓] theorem u_for : wFor it g x E ρ = it ρ fun items ρ1 => @forX g x items ρ1 ⟨E⟩ := rfl
@[simp ↓] theorem u_while : wWhile s x E ρ = @whileX s x ρ ⟨E⟩ := rfl
@[simp ↓] theorem u_new : wNew i j x E ρ = @newX i j x ρ ⟨E⟩ := rfl
@[simp ↓] theorem u_setIx : wSetIx i a e E ρ = e ρ fun r ρ1 => nb r ∧ @lex ρ1[i]? ⟨fun _ => a ρ1 fun r1 ρ2 => @iex r1.d ⟨fun n => @lex ρ2[i]? ⟨fun ds => @oex _ (ixN ds.length n) ⟨fun j => @stp (ρ2.set i (some (.own (.list (ds.set j r.d))))) ⟨E.nx⟩⟩⟩⟩⟩ := by
  refine congrArg (e ρ) (funext fun r => funext fun ρ1 => propext ⟨fun ⟨h, ⟨ds, h1⟩, h2⟩ => ⟨h, ds, h1, ?_⟩, fun ⟨h, ds, h1, h2⟩ => ⟨h, ⟨ds, h1⟩, ?_⟩⟩)
  · refine cast (congrArg (a ρ1) (funext fun r1 => funext fun ρ2 => propext ⟨fun ⟨n, ds, j, e1, e2, e3, h⟩ => ⟨n, e1, ds, e2, j, e3, h⟩, fun ⟨n, e1, ds, e2, j, e3, h⟩ => ⟨n, ds, j, e1, e2, e3, h⟩⟩)) h2
  · refine cast (congrArg (a ρ1) (funext fun r1 => funext fun ρ2 => propext ⟨fun ⟨n, e1, ds, e2, j, e3, h⟩ => ⟨n, ds, j, e1, e2, e3, h⟩, fun ⟨n, ds, j, e1, e2, e3, h⟩ => ⟨n, e1, ds, e2, j, e3, h⟩⟩)) h2
@[simp ↓] theorem u_app : wApp i e E ρ = @lex ρ[i]? ⟨fun _ => e ρ fun r ρ1 => nb r ∧ @lex ρ1[i]? ⟨fun ds => ds.length < 16777216 ∧ @stp (ρ1.set i (some (.own (.list (ds ++ [r.d]))))) ⟨E.nx⟩⟩⟩ :=
  propext ⟨fun ⟨⟨ds, h⟩, g⟩ => ⟨ds, h, g⟩, fun ⟨ds, h, g⟩ => ⟨⟨ds, h⟩, g⟩⟩
@[simp ↓] theorem u_cupIx : wCupIx i j ρ Q = (ρ[i]? = some (some .cup) ∧ j < 2 ∧ ∀ x : Int, 0 ≤ x → (j = 1 → x < 2 ^ 32) → Q (.im (.int x)) ρ) := rfl
@[simp ↓] theorem u_cupSet : wCupSet i j e E ρ = e ρ fun r ρ1 => ρ1[i]? = some (some .cup) ∧ j < 2 ∧ @iex r.d ⟨fun x => 0 ≤ x ∧ (j = 1 → x < 2 ^ 32) ∧ E.nx ρ1⟩ := rfl
@[simp ↓] theorem u_scrList : wScrList j ρ Q = ∃ ns, ρ[j]? = some (some (.scr ns)) ∧ Q (.fr (.list (ns.map .int))) ρ := rfl
@[simp] theorem u_nbi : nb (.im d) = True := rfl
@[simp] theorem u_nbf : nb (.fr d) = True := rfl
@[simp] theorem u_sv1 : svOf o (.im d) = .val d := rfl
@[simp] theorem u_sv2 : svOf true (.fr d) = .own d := rfl
@[simp] theorem u_sv3 : svOf false (.fr d) = .val d := rfl
@[simp] theorem u_addI {m n : Int} : @app2 opAdd (.int m) (.int n) ⟨k⟩ = k (.im (.int (m + n))) := rfl
@[simp] theorem u_addL {xs ys : List D} : @app2 opAdd (.list xs) (.list ys) ⟨k⟩ = (xs.length + ys.length ≤ 16777216 ∧ k (.fr (.list (xs ++ ys)))) := rfl
@[simp] theorem u_addT {xs ys : List D} : @app2 opAdd (.tuple xs) (.tuple ys) ⟨k⟩ = (xs.length + ys.length ≤ 16777216 ∧ k (.im (.tuple (xs ++ ys)))) := rfl
@[simp] theorem u_subI {m n : Int} : @app2 opSub (.int m) (.int n) ⟨k⟩ = k (.im (.int (m - n))) := rfl
@[simp] theorem u_mulI {m n : Int} : @app2 opMul (.int m) (.int n) ⟨k⟩ = ((Sm m ∨ Sm n) ∧ k (.im (.int (m * n)))) := rfl
@[simp] theorem u_mulL {xs : List D} {n : Int} : @app2 opMul (.list xs) (.int n) ⟨k⟩ = (n ≤ 16777216 ∧ -(2 ^ 63) ≤ n ∧ xs.length * n.toNat ≤ 16777216 ∧ k (.fr (.list (List.replicate n.toNat xs).flatten))) := rfl
@[simp] theorem u_divI {m n : Int} : @app2 opDiv (.int m) (.int n) ⟨k⟩ = (0 < n ∧ n < 2 ^ 8000 ∧ k (.im (.int (m / n)))) := rfl
@[simp] theorem u_modI {m n : Int} : @app2 opMod (.int m) (.int n) ⟨k⟩ = (0 < n ∧ k (.im (.int (m % n)))) := rfl
@[simp] theorem u_negI {m : Int} : @app1 opNeg (.int m) ⟨k⟩ = k (.im (.int (-m))) := rfl
@[simp] theorem u_ltI {m n : Int} : @app2 opLt (.int m) (.int n) ⟨k⟩ = k (.im (.bool (decide (m < n)))) := rfl
@[simp] theorem u_leI {m n : Int} : @app2 opLe (.int m) (.int n) ⟨k⟩ = k (.im (.bool (decide (m ≤ n)))) := rfl
@[simp] theorem u_gtI {m n : Int} : @app2 opGt (.int m) (.int n) ⟨k⟩ = k (.im (.bool (decide (n < m)))) := rfl
@[simp] theorem u_geI {m n : Int} : @app2 opGe (.int m) (.int n) ⟨k⟩ = k (.im (.bool (decide (n ≤ m)))) := rfl
@[simp] theorem u_eq : @app2 opEq d d2 ⟨k⟩ = (okD d ∧ okD d2 ∧ k (.im (.bool (PyData.eqv d d2)))) := rfl
@[simp] theorem u_ne : @app2 opNe d d2 ⟨k⟩ = (okD d ∧ okD d2 ∧ k (.im (.bool (!PyData.eqv d d2)))) := rfl
@[simp] theorem u_isN : @app2 opIsN d .none ⟨k⟩ = k (.im (.bool (isN d))) := by cases d <;> rfl
@[simp] theorem u_notN : @app2 opNotN d .none ⟨k⟩ = k (.im (.bool (!isN d))) := by cases d <;> rfl
@[simp] theorem u_isNi {m : Int} : isN (.int m) = false := rfl
@[simp] theorem u_isNn : isN .none = true := rfl
@[simp] theorem u_isNt {ds : List D} : isN (.tuple ds) = false := rfl
@[simp] theorem u_isB {p q : Bool} : @app2 opIsB (.bool p) (.bool q) ⟨k⟩ = k (.im (.bool (decide (p = q)))) := rfl
@[simp] theorem u_inL {ds : List D} : @app2 (opIn o) d (.list ds) ⟨k⟩ = (flatD d = true ∧ ds.all flatD = true ∧ k (.im (.bool (if o then !inD d ds else inD d ds)))) := by cases d <;> rfl
@[simp] theorem u_inT {ds : List D} : @app2 (opIn o) d (.tuple ds) ⟨k⟩ = (flatD d = true ∧ ds.all flatD = true ∧ k (.im (.bool (if o then !inD d ds else inD d ds)))) := by cases d <;> rfl
@[simp] theorem u_ixL {ds : List D} {m : Int} : @app2 opIx (.list ds) (.int m) ⟨k⟩ = @oex _ (atI ds m) ⟨fun d => k (.im d)⟩ := rfl
@[simp] theorem u_ixT {ds : List D} {m : Int} : @app2 opIx (.tuple ds) (.int m) ⟨k⟩ = @oex _ (atI ds m) ⟨fun d => k (.im d)⟩ := rfl
@[simp] theorem u_slL {ds : List D} {lo hi : Option Int} : @sl3 (.list ds) lo hi ⟨k⟩ = k (.fr (.list (cut ds lo hi))) := rfl
@[simp] theorem u_slT {ds : List D} {lo hi : Option Int} : @sl3 (.tuple ds) lo hi ⟨k⟩ = k (.im (.tuple (cut ds lo hi))) := rfl
@[simp] theorem u_lenL {ds : List D} : @app1 opLen (.list ds) ⟨k⟩ = k (.im (.int ds.length)) := rfl
@[simp] theorem u_lenT {ds : List D} : @app1 opLen (.tuple ds) ⟨k⟩ = k (.im (.int ds.length)) := rfl
@[simp] theorem u_abs {m : Int} : @app1 opAbs (.int m) ⟨k⟩ = k (.im (.int (if m < 0 then -m else m))) := rfl
@[simp] theorem u_int {m : Int} : @app1 opInt (.int m) ⟨k⟩ = k (.im (.int m)) := rfl
@[simp] theorem u_sum {ds : List D} : @app1 opSum (.list ds) ⟨k⟩ = @oex _ (intsD ds) ⟨fun ns => k (.im (.int ns.sum))⟩ := rfl
@[simp] theorem u_max {ds : List D} : @app1 opMax (.list ds) ⟨k⟩ = @oex _ (intsD ds) ⟨fun ns => ns ≠ [] ∧ ∀ m, m ∈ ns → (∀ y, y ∈ ns → y ≤ m) → k (.im (.int m))⟩ := rfl
@[simp] theorem u_min {ds : List D} : @app1 opMin (.list ds) ⟨k⟩ = @oex _ (intsD ds) ⟨fun ns => ns ≠ [] ∧ ∀ m, m ∈ ns → (∀ y, y ∈ ns → m ≤ y) → k (.im (.int m))⟩ := rfl
@[simp] theorem u_max2 {m n : Int} : @app2 opMax2 (.int m) (.int n) ⟨k⟩ = k (.im (.int (if n > m then n else m))) := rfl
@[simp] theorem u_min2 {m n : Int} : @app2 opMin2 (.int m) (.int n) ⟨k⟩ = k (.im (.int (if n < m then n else m))) := rfl
@[simp] theorem u_all {ds : List D} : @app1 opAll (.list ds) ⟨k⟩ = @oex _ (boolsD ds) ⟨fun bs => k (.im (.bool (bs.all id)))⟩ := rfl
@[simp] theorem u_any {ds : List D} : @app1 opAny (.list ds) ⟨k⟩ = @oex _ (boolsD ds) ⟨fun bs => k (.im (.bool (bs.any id)))⟩ := rfl
@[simp] theorem u_listL {ds : List D} : @app1 opList (.list ds) ⟨k⟩ = k (.fr (.list ds)) := rfl
@[simp] theorem u_listT {ds : List D} : @app1 opList (.tuple ds) ⟨k⟩ = k (.fr (.list ds)) := rfl
@[simp] theorem u_tupleL {ds : List D} : @app1 opTuple (.list ds) ⟨k⟩ = k (.im (.tuple ds)) := rfl
@[simp] theorem u_tupleT {ds : List D} : @app1 opTuple (.tuple ds) ⟨k⟩ = k (.im (.tuple ds)) := rfl
@[simp] theorem u_seqL {ds : List D} : seqD (.list ds) = some ds := rfl
@[simp] theorem u_seqT {ds : List D} : seqD (.tuple ds) = some ds := rfl
@[simp] theorem u_trb {p : Bool} : tru (.bool p) = some p := rfl
@[simp] theorem u_okD : okD d = (SeqAt.shaped d = true) := rfl
@[simp] theorem u_okI {m : Int} : SeqAt.shaped (.int m) = true := rfl
@[simp] theorem u_okN : SeqAt.shaped .none = true := rfl
@[simp] theorem u_okB {p : Bool} : SeqAt.shaped (.bool p) = true := rfl
@[simp] theorem u_okL : SeqAt.shaped (.list []) = true := rfl
@[simp] theorem u_ints (ns : List Int) : intsD (ns.map PyData.int) = some ns := intsD_map ns
@[simp] theorem u_bools (ns : List Bool) : boolsD (ns.map PyData.bool) = some ns := boolsD_map ns
@[simp] theorem u_wipe0 : wipeP ρ [] = ρ := rfl
@[simp] theorem u_wipe {vs : List Nat} : wipeP ρ (i :: vs) = (wipeP ρ vs).set i none := rfl
@[simp] theorem u_rangeL {m : Int} {n : Nat} : (rangeD m n).length = n := by simp [rangeD]
@[simp] theorem u_sorted {ds : List D} : @app1 opSorted (.list ds) ⟨k⟩ = @oex _ (intsD ds) ⟨fun ns => ∀ ms : List Int, ms.Perm ns → ms.Pairwise (· ≤ ·) → k (.fr (.list (ms.map .int)))⟩ := rfl
@[simp] theorem u_sortsetL {ds : List D} : @app1 opSortSet (.list ds) ⟨k⟩ = @oex _ (intsD ds) ⟨fun ns => ns.length ≤ 4000 ∧ ∀ ms : List Int, ms.Pairwise (· < ·) → (∀ j, j ∈ ms ↔ j ∈ ns) → k (.fr (.list (ms.map .int)))⟩ := rfl
@[simp] theorem u_sortsetT {ds : List D} : @app1 opSortSet (.tuple ds) ⟨k⟩ = @oex _ (intsD ds) ⟨fun ns => ns.length ≤ 4000 ∧ ∀ ms : List Int, ms.Pairwise (· < ·) → (∀ j, j ∈ ms ↔ j ∈ ns) → k (.fr (.list (ms.map .int)))⟩ := rfl
@[simp] theorem u_pow {m n : Int} : @app2 opPow (.int m) (.int n) ⟨k⟩ = ((0 ≤ n ∧ n ≤ 1000000 ∧ Sm m) ∧ k (.im (.int (m ^ n.toNat)))) := rfl
end
end PL

set_option Elab.async false
set_option linter.all false
set_option maxRecDepth 100000
set_option maxHeartbeats 4000000
namespace PL
open PySem L2
/-! ### data that can be compared -/
def scaB : D → Bool
  | .none => true | .bool _ => true | .int _ => true | .str s => PyData.canLay0 (.str s) | _ => false
def okS : Nat → D → Prop
  | n + 1, .list ds => ds.length ≤ 16777216 ∧ ∀ d ∈ ds, okS n d
  | n + 1, .tuple ds => ds.length ≤ 16777216 ∧ ∀ d ∈ ds, okS n d
  | _, d => scaB d = true
theorem can_all {ds : List D} (h : ∀ d ∈ ds, d.canLay0 = true) : PyData.canLayAll0 ds = true := by
  induction ds with
  | nil => simp [PyData.canLayAll0]
  | cons d ds ih =>
    simp only [PyData.canLayAll0, Bool.and_eq_true]
    exact ⟨h d List.mem_cons_self, ih fun e he => h e (List.mem_cons_of_mem _ he)⟩
theorem dep_all {n : Nat} {ds : List D} (h : ∀ d ∈ ds, d.depth ≤ n) : PyData.depthAll ds ≤ n := by
  induction ds with
  | nil => simp [PyData.depthAll]
  | cons d ds ih =>
    have h1 := h d List.mem_cons_self
    have h2 := ih fun e he => h e (List.mem_cons_of_mem _ he)
    simp only [PyData.depthAll]
    omega
theorem scaB.ok {d : D} (h : scaB d = true) : d.canLay0 = true ∧ d.depth ≤ 1 := by
  cases d <;> simp_all [scaB, PyData.canLay0, PyData.depth]
theorem okS.ok : ∀ {n : Nat} {d : D}, okS n d → d.canLay0 = true ∧ d.depth ≤ n + 1
  | 0, d, h => by
    have := scaB.ok (d := d) (by cases d <;> simpa [okS] using h)
    exact ⟨this.1, by omega⟩
  | n + 1, .list ds, h => by
    simp only [okS] at h
    have := fun d hd => okS.ok (h.2 d hd)
    simp only [PyData.canLay0, PyData.depth]
    exact ⟨can_all fun d hd => (this d hd).1, by have := dep_all fun d hd => (this d hd).2; omega⟩
  | n + 1, .tuple ds, h => by
    simp only [okS] at h
    have := fun d hd => okS.ok (h.2 d hd)
    simp only [PyData.canLay0, PyData.depth]
    exact ⟨can_all fun d hd => (this d hd).1, by have := dep_all fun d hd => (this d hd).2; omega⟩
  | n + 1, .none, h => by simp [PyData.canLay0, PyData.depth]
  | n + 1, .bool _, h => by simp [PyData.canLay0, PyData.depth]
  | n + 1, .int _, h => by simp [PyData.canLay0, PyData.depth]
  | n + 1, .str _, h => by
    have := scaB.ok (by simpa [okS] using h)
    exact ⟨this.1, by omega⟩
  | n + 1, .dict _, h => by simp [okS, scaB] at h
theorem okS.okD {n : Nat} {d : D} (h : okS n d) (hn : n ≤ 60 := by decide) : okD d := by
  have := h.ok
  unfold PL.okD SeqAt.shaped
  simp only [Bool.and_eq_true, decide_eq_true_eq]
  exact ⟨this.1, by omega⟩
@[simp] theorem okS_none {n : Nat} : okS n .none := by cases n <;> simp [okS, scaB]
@[simp] theorem okS_int {n : Nat} {i : Int} : okS n (.int i) := by cases n <;> simp [okS, scaB]
@[simp] theorem okS_bool {n : Nat} {i : Bool} : okS n (.bool i) := by cases n <;> simp [okS, scaB]
@[simp] theorem okS_list {n : Nat} {ds : List D} : okS (n + 1) (.list ds) ↔ ds.length ≤ 16777216 ∧ ∀ d ∈ ds, okS n d := by simp [okS]
@[simp] theorem okS_tuple {n : Nat} {ds : List D} : okS (n + 1) (.tuple ds) ↔ ds.length ≤ 16777216 ∧ ∀ d ∈ ds, okS n d := by simp [okS]
theorem okS.up : ∀ {n : Nat} {d : D}, okS n d → okS (n + 1) d
  | 0, d, h => by cases d <;> simp_all [okS, scaB]
  | n + 1, .list ds, h => by
    rw [okS_list] at h ⊢
    exact ⟨h.1, fun d hd => (h.2 d hd).up⟩
  | n + 1, .tuple ds, h => by
    rw [okS_tuple] at h ⊢
    exact ⟨h.1, fun d hd => (h.2 d hd).up⟩
  | n + 1, .none, h => by simp
  | n + 1, .bool _, h => by simp
  | n + 1, .int _, h => by simp
  | n + 1, .str _, h => by simpa [okS] using h
  | n + 1, .dict _, h => by simp [okS, scaB] at h
mutual
theorem eqv_self : ∀ d : D, d.canLay0 = true → PyData.eqv d d = true
  | .none, _ => by simp [PyData.eqv]
  | .bool b, _ => by simp [PyData.eqv]
  | .int b, _ => by simp [PyData.eqv]
  | .str b, _ => by simp [PyData.eqv]
  | .list ds, h => by simp only [PyData.eqv]; exact eqvAll_self ds (by simpa [PyData.canLay0] using h)
  | .tuple ds, h => by simp only [PyData.eqv]; exact eqvAll_self ds (by simpa [PyData.canLay0] using h)
  | .dict _, h => by simp [PyData.canLay0] at h
theorem eqvAll_self : ∀ ds : List D, PyData.canLayAll0 ds = true → PyData.eqvAll ds ds = true
  | [], _ => by simp [PyData.eqvAll]
  | d :: ds, h => by
    simp only [PyData.canLayAll0, Bool.and_eq_true] at h
    simp only [PyData.eqvAll, Bool.and_eq_true]
    exact ⟨eqv_self d h.1, eqvAll_self ds h.2⟩
end
@[simp] theorem eqv_int (i j : Int) : PyData.eqv (.int i) (.int j) = decide (i = j) := by
  simp only [PyData.eqv]
  by_cases h : i = j <;> simp [h]
theorem eqvAll_ints : ∀ xs ys : List Int, PyData.eqvAll (xs.map .int) (ys.map .int) = decide (xs = ys)
  | [], [] => by simp [PyData.eqvAll]
  | [], _ :: _ => by simp [PyData.eqvAll]
  | _ :: _, [] => by simp [PyData.eqvAll]
  | x :: xs, y :: ys => by
    simp only [List.map_cons, PyData.eqvAll, eqv_int, eqvAll_ints xs ys, List.cons.injEq, Bool.decide_and]
theorem eqv_lists (xs ys : List Int) : PyData.eqv (.list (xs.map .int)) (.list (ys.map .int)) = decide (xs = ys) := by
  simp only [PyData.eqv, eqvAll_ints]
theorem eqv_tups (xs ys : List Int) : PyData.eqv (.tuple (xs.map .int)) (.tuple (ys.map .int)) = decide (xs = ys) := by
  simp only [PyData.eqv, eqvAll_ints]
@[simp] theorem eqv_lnil (ds : List D) : PyData.eqv (.list ds) (.list []) = ds.isEmpty := by cases ds <;> simp [PyData.eqv, PyData.eqvAll]
theorem okS_ints (ns : List Int) (h : ns.length ≤ 16777216) : okS 1 (.list (ns.map .int)) := by
  rw [okS_list]
  refine ⟨by simpa using h, fun d hd => ?_⟩
  obtain ⟨i, _, rfl⟩ := List.mem_map.mp hd
  simp
theorem okS_intsT (ns : List Int) (h : ns.length ≤ 16777216) : okS 1 (.tuple (ns.map .int)) := by
  rw [okS_tuple]
  refine ⟨by simpa using h, fun d hd => ?_⟩
  obtain ⟨i, _, rfl⟩ := List.mem_map.mp hd
  simp
theorem sm_small {i : Int} (h : -(2 ^ 40) ≤ i) (h2 : i ≤ 2 ^ 40) : Sm i := by unfold Sm; omega
theorem pow8000 : (2 : Int) ^ 100 ≤ 2 ^ 8000 := by decide +kernel
theorem lt8000 {i : Int} (h : i < 2 ^ 100) : i < 2 ^ 8000 := Int.lt_of_lt_of_le h pow8000
theorem atI_some {α : Type} {xs : List α} {i : Int} {v : α} (h0 : 0 ≤ i) (h : xs[i.toNat]? = some v) : atI xs i = some v := by
  have hl : i.toNat < xs.length := (List.getElem?_eq_some_iff.mp h).1
  unfold atI ixN
  rw [if_pos h0, if_pos (by omega)]
  exact h
theorem ixN_some {n : Nat} {i : Int} (h0 : 0 ≤ i) (h : i < n) : ixN n i = some i.toNat := by
  unfold ixN; rw [if_pos h0, if_pos h]

/-! ### shared defs: the basics -/
def wholeB (d : D) (lo hi : Int) : Bool := match d with | .int i => decide (lo ≤ i) && decide (i ≤ hi) | _ => false
def isIntB (d : D) : Bool := isiD "int" d && !isiD "bool" d
theorem isIntB_int (i : Int) : isIntB (.int i) = true := by simp [isIntB, isiD, tyD]
theorem isIntB_no {d : D} (h : ∀ i, d ≠ .int i) : isIntB d = false := by cases d <;> simp_all [isIntB, isiD, tyD]
def riseB : List Int → Bool
  | x :: y :: r => decide (x < y) && riseB (y :: r)
  | _ => true
theorem riseB_iff : ∀ ns : List Int, riseB ns = true ↔ ns.Pairwise (· < ·)
  | [] => by simp [riseB]
  | [x] => by simp [riseB]
  | x :: y :: r => by
    simp only [riseB, Bool.and_eq_true, decide_eq_true_eq, riseB_iff (y :: r)]
    rw [List.pairwise_cons (a := x)]
    constructor
    · rintro ⟨h, g⟩
      refine ⟨fun z hz => ?_, g⟩
      rcases List.mem_cons.mp hz with e | hz
      · omega
      · have := (List.pairwise_cons.mp g).1 z hz; omega
    · rintro ⟨h, g⟩
      exact ⟨h y List.mem_cons_self, g⟩
def membB (d : D) (lo hi : Int) : Bool := match d with
  | .tuple ds => ds.all (fun e => wholeB e lo hi) && (match intsD ds with | some ns => riseB ns | none => false)
  | _ => false
theorem whole_ints {lo hi : Int} : ∀ {ds : List D}, ds.all (fun e => wholeB e lo hi) = true → ∃ ns : List Int, ds = ns.map .int ∧ ∀ n ∈ ns, lo ≤ n ∧ n ≤ hi
  | [], _ => ⟨[], rfl, by simp⟩
  | d :: ds, h => by
    simp only [List.all_cons, Bool.and_eq_true] at h
    obtain ⟨ns, rfl, hn⟩ := whole_ints h.2
    cases d with
    | int i =>
      have h1 := h.1
      simp only [wholeB, Bool.and_eq_true, decide_eq_true_eq] at h1
      refine ⟨i :: ns, rfl, fun n hn' => ?_⟩
      rcases List.mem_cons.mp hn' with rfl | hn'
      · exact h1
      · exact hn n hn'
    | _ => simp [wholeB] at h
theorem membB_of {ns : List Int} {lo hi : Int} (h : ∀ n ∈ ns, lo ≤ n ∧ n ≤ hi) (hr : ns.Pairwise (· < ·)) : membB (.tuple (ns.map .int)) lo hi = true := by
  simp only [membB, u_ints, Bool.and_eq_true, riseB_iff]
  refine ⟨List.all_eq_true.mpr fun e he => ?_, hr⟩
  obtain ⟨i, hi', rfl⟩ := List.mem_map.mp he
  have := h i hi'
  simp [wholeB, this]
def b_is_integer : WS := (wRet (wAnd (wIsi "int" (wVar 0)) (wNot (wIsi "bool" (wVar 0)))))
def sp_is_integer : FSpec := fun ds q => ∃ d, ds = [d] ∧ q (.im (.bool (isIntB d)))
@[simp] theorem u_is_integer {d : D} {k : Res → Prop} : @appS sp_is_integer [d] ⟨k⟩ ↔ k (.im (.bool (isIntB d))) := by simp [appS, sp_is_integer]
theorem len_is_integer : ∀ ds q, sp_is_integer ds q → (if false then 1 else 0) + ds.length = 1 := by
  rintro ds q ⟨d, rfl, _⟩; rfl
theorem ok_is_integer : ∀ ds q, sp_is_integer ds q → b_is_integer { nx := fun _ => q (.im .none), rt := q } (init ["value"] false ds) := by
  rintro ds q ⟨d, rfl, h⟩
  simp [b_is_integer, init, isIntB] at *
  cases e : isiD "int" d <;> cases e2 : isiD "bool" d <;> simp_all
def b_is_whole : WS := (wRet (wAnd (wCall sp_is_integer (wCons (wVar 0) wNil)) (wChain opLe opLe (wVar 1) (wVar 0) (wVar 2))))
def sp_is_whole : FSpec := fun ds q => ∃ d lo hi, ds = [d, .int lo, .int hi] ∧ q (.im (.bool (wholeB d lo hi)))
@[simp] theorem u_is_whole {d : D} {lo hi : Int} {k : Res → Prop} : @appS sp_is_whole [d, .int lo, .int hi] ⟨k⟩ ↔ k (.im (.bool (wholeB d lo hi))) :=
  ⟨fun ⟨d, lo, hi, e, h⟩ => by cases e; exact h, fun h => ⟨d, lo, hi, rfl, h⟩⟩
theorem len_is_whole : ∀ ds q, sp_is_whole ds q → (if false then 1 else 0) + ds.length = 3 := by
  rintro ds q ⟨d, lo, hi, rfl, _⟩; rfl
theorem ok_is_whole : ∀ ds q, sp_is_whole ds q → b_is_whole { nx := fun _ => q (.im .none), rt := q } (init ["value", "low", "high"] false ds) := by
  rintro ds q ⟨d, lo, hi, rfl, h⟩
  simp [b_is_whole, init]
  by_cases e : ∃ i, d = .int i
  · obtain ⟨i, rfl⟩ := e
    simp [isIntB_int, wholeB] at *
    by_cases h1 : lo ≤ i
    · simp_all
    · rw [decide_eq_false h1, Bool.false_and] at h
      rw [if_neg h1]; exact h
  · have : isIntB d = false := isIntB_no fun i hi => e ⟨i, hi⟩
    cases d <;> simp_all [wholeB]
def b_is_rising : WS := (wRet (wUn opAll (wComp [1, 2] (wZip (wVar 0) (wSl (wVar 0) (wP (wC (.int 1))) wNoP)) (gT 2 (gsC (gN 1) (gsC (gN 2) gs0))) wYes (wBin opLt (wVar 1) (wVar 2)))))
def sp_is_rising : FSpec := fun ds q => ∃ ns : List Int, ds = [.tuple (ns.map .int)] ∧ ns.length ≤ 16777216 ∧ q (.im (.bool (riseB ns)))
theorem len_is_rising : ∀ ds q, sp_is_rising ds q → (if false then 1 else 0) + ds.length = 1 := by
  rintro ds q ⟨ns, rfl, _⟩; rfl
theorem cut1 {α : Type} (xs : List α) : cut xs (some 1) none = xs.drop 1 := by
  unfold cut HT.sIx
  cases xs with
  | nil => rfl
  | cons x r => simp
theorem rise_zip : ∀ ns : List Int, ((ns.zip (ns.drop 1)).map fun p => decide (p.1 < p.2)).all id = riseB ns
  | [] => rfl
  | [x] => rfl
  | x :: y :: r => by
    have := rise_zip (y :: r)
    simp only [List.drop_succ_cons, List.drop_zero] at this ⊢
    simp only [List.zip_cons_cons, List.map_cons, List.all_cons, riseB, id]
    rw [← this] <;> rfl
theorem pairD_ints (xs ys : List Int) : pairD (xs.map .int) (ys.map .int) = (xs.zip ys).map fun p => PyData.tuple [.int p.1, .int p.2] := by
  unfold pairD
  rw [List.zip_map, List.map_map]
  rfl
theorem ok_is_rising : ∀ ds q, sp_is_rising ds q → b_is_rising { nx := fun _ => q (.im .none), rt := q } (init ["things", "one", "other"] false ds) := by
  rintro ds q ⟨ns, rfl, hl, h⟩
  simp [b_is_rising, init]
  rw [cut1, ← List.map_drop, pairD_ints]
  refine ⟨by simp; omega, ?_⟩
  refine compL_map (fun d => match d with | .tuple [.int a, .int b] => .bool (decide (a < b)) | _ => .none) _ _ _ (fun d hd Kt k => ?_) ?_
  · obtain ⟨p, hp, rfl⟩ := List.mem_map.mp hd
    simp at *; exact k
  · refine ⟨(ns.zip (ns.drop 1)).map fun p => decide (p.1 < p.2), ?_, ?_⟩
    · rw [List.nil_append, List.map_map, ← boolsD_map, List.map_map]; rfl
    · dsimp only
      rw [rise_zip]; exact h

def b_are_members : WS := (wRet (wAnd (wIsi "tuple" (wVar 0)) (wAnd (wUn opAll (wComp [3] (wSeqI (wVar 0)) (gN 3) wYes (wCall sp_is_whole (wCons (wVar 3) (wCons (wVar 1) (wCons (wVar 2) wNil)))))) (wCall sp_is_rising (wCons (wVar 0) wNil)))))
def sp_are_members : FSpec := fun ds q => ∃ d lo hi, ds = [d, .int lo, .int hi] ∧ (∀ es, d = .tuple es → es.length ≤ 16777216) ∧ q (.im (.bool (membB d lo hi)))
@[simp] theorem u_are_members {d : D} {lo hi : Int} {k : Res → Prop} : @appS sp_are_members [d, .int lo, .int hi] ⟨k⟩ ↔ (∀ es, d = .tuple es → es.length ≤ 16777216) ∧ k (.im (.bool (membB d lo hi))) :=
  ⟨fun ⟨d, lo, hi, e, h⟩ => by cases e; exact h, fun h => ⟨d, lo, hi, rfl, h⟩⟩
theorem len_are_members : ∀ ds q, sp_are_members ds q → (if false then 1 else 0) + ds.length = 3 := by
  rintro ds q ⟨d, lo, hi, rfl, _⟩; rfl
theorem ok_are_members : ∀ ds q, sp_are_members ds q → b_are_members { nx := fun _ => q (.im .none), rt := q } (init ["value", "low", "high", "one"] false ds) := by
  rintro ds q ⟨d, lo, hi, rfl, hl, h⟩
  cases d with
  | tuple es =>
    have hl := hl es rfl
    have e1 : isiD "tuple" (.tuple es) = true := by simp [isiD, tyD]
    simp only [b_are_members, init, u_ret, u_and, u_un, u_comp, u_seqI, u_var, u_call, u_cons, u_nil, u_isi]
    simp [e1, -List.all_map, -List.all_eq_true]
    refine ⟨hl, compL_map (fun d => .bool (wholeB d lo hi)) _ _ _ (fun d hd Kt k => ?_) ?_⟩
    · simp; exact k
    · refine ⟨es.map fun e => wholeB e lo hi, ?_, ?_⟩
      · rw [List.nil_append, ← boolsD_map, List.map_map]; rfl
      · have e2 : ((es.map fun e => wholeB e lo hi).all id) = es.all fun e => wholeB e lo hi := by rw [List.all_map]; rfl
        by_cases c : es.all (fun e => wholeB e lo hi) = true
        · obtain ⟨ns, rfl, _⟩ := whole_ints c
          dsimp only
          rw [if_pos (e2.trans c)]
          refine ⟨ns, rfl, by simpa using hl, ?_⟩
          simp only [membB, c, u_ints, Bool.true_and] at h; exact ⟨trivial, h⟩
        · have c : es.all (fun e => wholeB e lo hi) = false := by simpa using c
          dsimp only
          rw [if_neg (Bool.eq_false_iff.mp (e2.trans c))]
          simp only [membB, c, Bool.false_and] at h
          simpa using h
  | _ => simp [b_are_members, init, isiD, tyD, membB] at *; exact h
def b_fits_clock : WS := (wRet (wCall sp_is_whole (wCons (wVar 0) (wCons (wC (.int 1)) (wCons (wC (.int 400)) wNil)))))
def sp_fits_clock : FSpec := fun ds q => ∃ d, ds = [d] ∧ q (.im (.bool (wholeB d 1 400)))
@[simp] theorem u_fits_clock {d : D} {k : Res → Prop} : @appS sp_fits_clock [d] ⟨k⟩ ↔ k (.im (.bool (wholeB d 1 400))) := by simp [appS, sp_fits_clock]
theorem len_fits_clock : ∀ ds q, sp_fits_clock ds q → (if false then 1 else 0) + ds.length = 1 := by
  rintro ds q ⟨d, rfl, _⟩; rfl
theorem ok_fits_clock : ∀ ds q, sp_fits_clock ds q → b_fits_clock { nx := fun _ => q (.im .none), rt := q } (init ["value"] false ds) := by
  rintro ds q ⟨d, rfl, h⟩
  simpa [b_fits_clock, init] using h
def b_need_clock : WS := (wIfS (wNotT (wTr (wCall sp_fits_clock (wCons (wVar 0) wNil)))) wNever wSkip)
def sp_need_clock : FSpec := fun ds q => ∃ h : Int, ds = [.int h] ∧ (1 ≤ h ∧ h ≤ 400) ∧ q (.im .none)
@[simp] theorem u_need_clock {h : Int} {k : Res → Prop} : @appS sp_need_clock [.int h] ⟨k⟩ ↔ (1 ≤ h ∧ h ≤ 400) ∧ k (.im .none) :=
  ⟨fun ⟨d, e, h⟩ => by cases e; exact h, fun g => ⟨h, rfl, g⟩⟩
theorem len_need_clock : ∀ ds q, sp_need_clock ds q → (if false then 1 else 0) + ds.length = 1 := by
  rintro ds q ⟨d, rfl, _⟩; rfl
theorem ok_need_clock : ∀ ds q, sp_need_clock ds q → b_need_clock { nx := fun _ => q (.im .none), rt := q } (init ["value"] false ds) := by
  rintro ds q ⟨d, rfl, h, hq⟩
  simp [b_need_clock, init, wholeB, h]; exact hq
def b_fits_clock_set : WS := (wRet (wCall sp_are_members (wCons (wVar 1) (wCons (wC (.int 0)) (wCons (wBin opSub (wVar 0) (wC (.int 1))) wNil)))))
def sp_fits_clock_set : FSpec := fun ds q => ∃ (h : Int) (d : D), ds = [.int h, d] ∧ (∀ es, d = .tuple es → es.length ≤ 16777216) ∧ q (.im (.bool (membB d 0 (h - 1))))
@[simp] theorem u_fits_clock_set {h : Int} {d : D} {k : Res → Prop} : @appS sp_fits_clock_set [.int h, d] ⟨k⟩ ↔ (∀ es, d = .tuple es → es.length ≤ 16777216) ∧ k (.im (.bool (membB d 0 (h - 1)))) :=
  ⟨fun ⟨h, d, e, g⟩ => by cases e; exact g, fun g => ⟨h, d, rfl, g⟩⟩
theorem len_fits_clock_set : ∀ ds q, sp_fits_clock_set ds q → (if false then 1 else 0) + ds.length = 2 := by
  rintro ds q ⟨h, d, rfl, _⟩; rfl
theorem ok_fits_clock_set : ∀ ds q, sp_fits_clock_set ds q → b_fits_clock_set { nx := fun _ => q (.im .none), rt := q } (init ["hours", "value"] false ds) := by
  rintro ds q ⟨h, d, rfl, hl, hq⟩
  simp [b_fits_clock_set, init]
  exact ⟨hl, hq⟩
def b_is_clock_set : WS := (wSeq (wExp (wCall sp_need_clock (wCons (wVar 0) wNil)))
  (wRet (wCall sp_fits_clock_set (wCons (wVar 0) (wCons (wVar 1) wNil)))))
def sp_is_clock_set : FSpec := fun ds q => ∃ (h : Int) (d : D), ds = [.int h, d] ∧ (1 ≤ h ∧ h ≤ 400) ∧ (∀ es, d = .tuple es → es.length ≤ 16777216) ∧ q (.im (.bool (membB d 0 (h - 1))))
@[simp] theorem u_is_clock_set {h : Int} {d : D} {k : Res → Prop} : @appS sp_is_clock_set [.int h, d] ⟨k⟩ ↔ (1 ≤ h ∧ h ≤ 400) ∧ (∀ es, d = .tuple es → es.length ≤ 16777216) ∧ k (.im (.bool (membB d 0 (h - 1)))) :=
  ⟨fun ⟨h, d, e, g⟩ => by cases e; exact g, fun g => ⟨h, d, rfl, g⟩⟩
theorem len_is_clock_set : ∀ ds q, sp_is_clock_set ds q → (if false then 1 else 0) + ds.length = 2 := by
  rintro ds q ⟨h, d, rfl, _⟩; rfl
theorem ok_is_clock_set : ∀ ds q, sp_is_clock_set ds q → b_is_clock_set { nx := fun _ => q (.im .none), rt := q } (init ["hours", "value"] false ds) := by
  rintro ds q ⟨h, d, rfl, hh, hl, hq⟩
  simp [b_is_clock_set, init]
  exact ⟨hh, hl, hq⟩
def b_need_clock_set : WS := (wSeq (wExp (wCall sp_need_clock (wCons (wVar 0) wNil)))
  (wIfS (wNotT (wTr (wCall sp_fits_clock_set (wCons (wVar 0) (wCons (wVar 1) wNil))))) wNever wSkip))
def sp_need_clock_set : FSpec := fun ds q => ∃ (h : Int) (ns : List Int), ds = [.int h, .tuple (ns.map .int)] ∧ (1 ≤ h ∧ h ≤ 400) ∧ ns.length ≤ 16777216 ∧ membB (.tuple (ns.map .int)) 0 (h - 1) = true ∧ q (.im .none)
theorem len_need_clock_set : ∀ ds q, sp_need_clock_set ds q → (if false then 1 else 0) + ds.length = 2 := by
  rintro ds q ⟨h, d, rfl, _⟩; rfl
theorem ok_need_clock_set : ∀ ds q, sp_need_clock_set ds q → b_need_clock_set { nx := fun _ => q (.im .none), rt := q } (init ["hours", "value"] false ds) := by
  rintro ds q ⟨h, ns, rfl, hh, hl, hm, hq⟩
  simp [b_need_clock_set, init, hm]
  exact ⟨hh, hl, hq⟩

/-! ### shared defs: the law's helpers -/
def b__law_cup : WS := (wSeq (wSet 1 false (wUn opAbs (wBin opIx (wBin opAdd (wScrList 0) (wLst (wCons (wC (.int 0)) wNil))) (wC (.int 0)))))
  (wRet (wLst (wCons (wIf (wT (wBin opGe (wVar 1) (wBin opPow (wC (.int 10)) (wC (.int 18))))) (wBin opDiv (wVar 1) (wC (.int 73))) (wC (.int 0))) (wCons (wBin opAdd (wBin opMod (wUn opInt (wBin opAdd (wBin opMul (wVar 1) (wC (.int 283))) (wC (.int 3907)))) (wC (.int 2077503167))) (wC (.int 167))) wNil)))))
def b__law_roll : WS := (wSeq (wIfS (wT (wBin opGt (wCupIx 0 0) (wC (.int 0)))) (wSeq (wSet 2 false (wBin opMod (wUn opInt (wCupIx 0 0)) (wVar 1)))
  (wSeq (wCupSet 0 0 (wBin opDiv (wCupIx 0 0) (wVar 1)))
  (wRet (wVar 2)))) wSkip)
  (wSeq (wCupSet 0 1 (wBin opMod (wUn opInt (wBin opAdd (wBin opMul (wCupIx 0 1) (wC (.int 31051))) (wC (.int 7993)))) (wC (.int 2147483543))))
  (wSeq (wSet 3 false (wBin opMod (wUn opInt (wBin opMul (wCupIx 0 1) (wBin opAdd (wCupIx 0 1) (wC (.int 229))))) (wC (.int 2147483587))))
  (wRet (wBin opMod (wUn opInt (wBin opDiv (wVar 3) (wC (.int 821)))) (wVar 1))))))
def sp__law_roll : FSpec := fun ds q => ∃ m : Int, ds = [.int m] ∧ 0 < m ∧ m < 2 ^ 100 ∧ ∀ k : Int, 0 ≤ k → k < m → q (.im (.int k))
theorem len__law_roll : ∀ ds q, sp__law_roll ds q → (if true then 1 else 0) + ds.length = 2 := by
  rintro ds q ⟨m, rfl, _⟩; rfl
theorem ok__law_roll : ∀ ds q, sp__law_roll ds q → b__law_roll { nx := fun _ => q (.im .none), rt := q } (init ["cup", "many", "found", "deep"] true ds) := by
  rintro ds q ⟨m, rfl, h0, h1, hq⟩
  have h8 := lt8000 h1
  have k : ∀ x : Int, q (.im (.int (x % m))) := fun x => hq _ (Int.emod_nonneg _ (by omega)) (Int.emod_lt_of_pos _ h0)
  simp [b__law_roll, init]
  intro x hx
  by_cases c : 0 < x
  · simp [c]
    exact fun y hy => ⟨h0, fun z hz => ⟨h0, h8, Int.ediv_nonneg hz (by omega), k y⟩⟩
  · simp [c]
    intro a ha ha2
    refine ⟨.inr (by unfold Sm; omega), Int.emod_nonneg _ (by omega), ?_, ?_⟩
    · have := Int.emod_lt_of_pos (a * 31051 + 7993) (by omega : (0 : Int) < 2147483543); omega
    · intro b hb hb2 c hc hc2
      refine ⟨.inl (by unfold Sm; omega), ?_, h0, k _⟩
      exact lt8000 (by omega)
theorem ok__law_cup : ∀ ns : List Int, ns.length ≤ 1000000 → b__law_cup { nx := fun _ => False, rt := fun r => ∃ a b : Int, r = .fr (.list [.int a, .int b]) ∧ 0 ≤ a ∧ 0 ≤ b ∧ b < 2 ^ 32 } (initS ["script", "cell"] ns) := by
  intro ns hl
  have main : ∀ c : Int, 0 ≤ c → (Sm c ∨ Sm 283) ∧ 0 ≤ (c * 283 + 3907) % 2077503167 + 167 ∧ (c * 283 + 3907) % 2077503167 + 167 < 4294967296 ∧ 0 ≤ c / 73 := fun c hc => by
    refine ⟨.inr (by unfold Sm; omega), ?_, ?_, Int.ediv_nonneg hc (by omega)⟩
    · have := Int.emod_nonneg (c * 283 + 3907) (by omega : (2077503167 : Int) ≠ 0); omega
    · have := Int.emod_lt_of_pos (c * 283 + 3907) (by omega : (0 : Int) < 2077503167); omega
  have pw : (10 : Int) ^ (18 : Int).toNat = 1000000000000000000 := by decide +kernel
  have p73 : (73 : Int) < 2 ^ 8000 := lt8000 (by omega)
  have s10 : Sm 10 := by unfold Sm; omega
  obtain ⟨x, xs, e⟩ : ∃ x xs, (ns.map PyData.int) ++ [PyData.int 0] = PyData.int x :: xs := by cases ns <;> exact ⟨_, _, rfl⟩
  have e0 : atI (PyData.int x :: xs) 0 = some (.int x) := atI_some (by omega) rfl
  simp [b__law_cup, initS, e, e0, s10]
  have m := main (if x < 0 then -x else x) (by split <;> omega)
  generalize (if x < 0 then -x else x) = c at m ⊢
  obtain ⟨m1, m2, m3, m4⟩ := m
  refine ⟨by omega, ?_⟩
  split
  · exact ⟨p73, m1, _, _, ⟨rfl, rfl⟩, m4, m2, m3⟩
  · exact ⟨m1, _, _, ⟨rfl, rfl⟩, by omega, m2, m3⟩
def b__law_some : WS := (wRet (wBin opIx (wVar 1) (wCallC 0 sp__law_roll (wCons (wUn opLen (wVar 1)) wNil))))
def sp__law_some : FSpec := fun ds q => ∃ d es, ds = [d] ∧ seqD d = some es ∧ es ≠ [] ∧ es.length ≤ 16777216 ∧ ∀ e ∈ es, q (.im e)
theorem len__law_some : ∀ ds q, sp__law_some ds q → (if true then 1 else 0) + ds.length = 2 := by
  rintro ds q ⟨d, es, rfl, _⟩; rfl
theorem ok__law_some : ∀ ds q, sp__law_some ds q → b__law_some { nx := fun _ => q (.im .none), rt := q } (init ["cup", "things"] true ds) := by
  rintro ds q ⟨d, es, rfl, e, hn, hl, hq⟩
  have hp : 0 < es.length := List.length_pos_iff.mpr hn
  have main : sp__law_roll [.int es.length] fun r => ∃ i, r = .im (.int i) ∧ 0 ≤ i ∧ i.toNat < es.length :=
    ⟨es.length, rfl, by omega, by omega, fun k h0 h1 => ⟨k, rfl, h0, by omega⟩⟩
  obtain ⟨m, e1, h1, h2, h3⟩ := main
  cases e1
  have key : ∀ k : Int, 0 ≤ k → k < es.length → ∃ v, atI es k = some v ∧ q (.im v) := fun k h0 h1 => by
    obtain ⟨i, e2, _, h4⟩ := h3 k h0 h1
    cases e2
    exact ⟨_, atI_some h0 (List.getElem?_eq_getElem h4), hq _ (List.getElem_mem h4)⟩
  cases d <;> simp [seqD] at e
  all_goals subst e
  all_goals simp [b__law_some, init]
  all_goals exact ⟨_, rfl, h1, h2, fun k h0 h1 => by obtain ⟨v, g1, g2⟩ := key k h0 h1; simp [g1, g2]⟩
def srtD : D → Int
  | .none => 0 | .bool _ => 1 | .int _ => 2 | .str _ => 3 | .tuple _ => 4 | .list _ => 5 | .dict _ => 6
def b__law_sort : WS := (wSeq (wIfS (wOrT (wT (wBin opIsN (wVar 0) (wC .none))) (wTr (wIsi "bool" (wVar 0)))) (wRet (wIf (wT (wBin opIsN (wVar 0) (wC .none))) (wC (.int 0)) (wC (.int 1)))) wSkip)
  (wSeq (wIfS (wOrT (wTr (wIsi "int" (wVar 0))) (wTr (wIsi "str" (wVar 0)))) (wRet (wIf (wTr (wIsi "int" (wVar 0))) (wC (.int 2)) (wC (.int 3)))) wSkip)
  (wRet (wIf (wTr (wIsi "tuple" (wVar 0))) (wC (.int 4)) (wIf (wTr (wIsi "list" (wVar 0))) (wC (.int 5)) (wC (.int 6)))))))
def sp__law_sort : FSpec := fun ds q => ∃ d, ds = [d] ∧ q (.im (.int (srtD d)))
@[simp] theorem u__law_sort {d : D} {k : Res → Prop} : @appS sp__law_sort [d] ⟨k⟩ ↔ k (.im (.int (srtD d))) := by simp [appS, sp__law_sort]
theorem len__law_sort : ∀ ds q, sp__law_sort ds q → (if false then 1 else 0) + ds.length = 1 := by
  rintro ds q ⟨d, rfl, _⟩; rfl
theorem ok__law_sort : ∀ ds q, sp__law_sort ds q → b__law_sort { nx := fun _ => q (.im .none), rt := q } (init ["value"] false ds) := by
  rintro ds q ⟨d, rfl, h⟩
  cases d <;> simp [b__law_sort, init, isiD, tyD, isN, srtD] at * <;> exact h
def b__law_like (sp__law_like : FSpec) : WS := (wSeq (wSet 2 false (wCall sp__law_sort (wCons (wVar 1) wNil)))
  (wSeq (wIfS (wOrT (wT (wBin opNe (wCall sp__law_sort (wCons (wVar 0) wNil)) (wVar 2))) (wT (wBin opEq (wVar 2) (wC (.int 6))))) (wRet (wC (.bool false))) wSkip)
  (wSeq (wIfS (wT (wBin (opIn false) (wVar 2) (wTup (wCons (wC (.int 4)) (wCons (wC (.int 5)) wNil))))) (wRet (wAnd (wBin opEq (wUn opLen (wVar 0)) (wUn opLen (wVar 1))) (wBin opEq (wComp [3, 4] (wZip (wVar 0) (wVar 1)) (gT 2 (gsC (gN 3) (gsC (gN 4) gs0))) (wNotT (wTr (wCall sp__law_like (wCons (wVar 3) (wCons (wVar 4) wNil))))) (wC (.int 1))) (wLst wNil)))) wSkip)
  (wRet (wBin opEq (wVar 0) (wVar 1))))))
/-- the same data twice: True -/
def spr__law_like : Nat → FSpec
  | 0 => fun _ _ => False
  | n + 1 => fun ds q => ∃ d, ds = [d, d] ∧ okS n d ∧ q (.im (.bool true))
abbrev sp__law_like : FSpec := spr__law_like 8
theorem u__law_like {d d' : D} {k : Res → Prop} (e : d = d') (h : okS 7 d) (hk : k (.im (.bool true))) : sp__law_like [d, d'] k := by subst e; exact ⟨d, rfl, h, hk⟩
theorem len__law_like : ∀ n ds q, spr__law_like n ds q → (if false then 1 else 0) + ds.length = 2 := by
  intro n ds q h
  cases n with
  | zero => exact h.elim
  | succ n => obtain ⟨d, rfl, _⟩ := h; rfl
theorem pair_self (ds : List D) : pairD ds ds = ds.map fun d => .tuple [d, d] := by
  unfold pairD
  induction ds with
  | nil => rfl
  | cons d ds ih => simp [List.zip_cons_cons] at ih ⊢; exact ih
theorem ok__law_like : ∀ n ds q, spr__law_like (n + 1) ds q → b__law_like (spr__law_like n) { nx := fun _ => q (.im .none), rt := q } (init ["one", "other", "sort", "first", "second"] false ds) := by
  rintro n ds q ⟨d, rfl, hd, hq⟩
  have sca : scaB d = true → b__law_like (spr__law_like n) { nx := fun _ => q (.im .none), rt := q } (init ["one", "other", "sort", "first", "second"] false [d, d]) := fun hs => by
    have o1 := scaB.ok hs
    have o2 : okD d := by unfold okD SeqAt.shaped; simp only [Bool.and_eq_true, decide_eq_true_eq]; exact ⟨o1.1, by omega⟩
    have o3 := eqv_self d o1.1
    cases d <;> simp [b__law_like, init, srtD, scaB, inD, flatD, o2, o3] at * <;> simp_all
  have seq : ∀ (es : List D) (m : Nat), n = m + 1 → es.length ≤ 16777216 → (∀ e ∈ es, okS m e) → (d = .list es ∨ d = .tuple es) → b__law_like (spr__law_like n) { nx := fun _ => q (.im .none), rt := q } (init ["one", "other", "sort", "first", "second"] false [d, d]) := fun es m hn hl he hx => by
    subst hn
    have main : ∀ ρ0 Q, Q [] → compL (gT 2 (gsC (gN 3) (gsC (gN 4) gs0))) (wNotT (wTr (wCall (spr__law_like (m + 1)) (wCons (wVar 3) (wCons (wVar 4) wNil))))) (wC (.int 1)) [ρ0, some (.val d), some (.val (.int (srtD d))), none, none] (pairD es es) [] Q := fun ρ0 Q k => by
      rw [pair_self]
      refine compL_det (fun _ => none) _ _ _ (fun e' he' Kt Kf k' => ?_) (by rw [show List.filterMap (fun _ : D => (none : Option D)) _ = [] from List.filterMap_eq_nil_iff.mpr fun _ _ => rfl]; exact k)
      obtain ⟨e, m1, rfl⟩ := List.mem_map.mp he'
      simp
      exact ⟨e, rfl, he e m1, by simpa using k'⟩
    rcases hx with rfl | rfl
    all_goals simp [b__law_like, init, srtD, inD, flatD]
    all_goals refine ⟨by rw [pair_self, List.length_map]; exact hl, main _ _ ?_⟩
    all_goals simp
    all_goals exact hq
  cases n with
  | zero => exact sca (by cases d <;> simpa [okS] using hd)
  | succ n =>
    cases d with
    | list es => rw [okS_list] at hd; exact seq es n rfl hd.1 hd.2 (.inl rfl)
    | tuple es => rw [okS_tuple] at hd; exact seq es n rfl hd.1 hd.2 (.inr rfl)
    | none => exact sca rfl
    | bool _ => exact sca rfl
    | int _ => exact sca rfl
    | str _ => exact sca (by simpa [okS] using hd)
    | dict _ => simp [okS, scaB] at hd
end PL

set_option Elab.async false
set_option linter.all false
set_option maxRecDepth 100000
set_option maxHeartbeats 4000000
namespace PL
open PySem L2
/-! ### clocks: in how many steps an hour is reached -/
/-- x is reached from 0 in exactly k steps -/
def Wk (h : Int) (ns : List Int) : Nat → Int → Prop
  | 0, x => x = 0
  | k + 1, x => ∃ y s, Wk h ns k y ∧ s ∈ ns ∧ x = (y + s) % h
theorem Wk.range {h : Int} (hh : 0 < h) {ns : List Int} : ∀ {k : Nat} {x : Int}, Wk h ns k x → 0 ≤ x ∧ x < h
  | 0, x, e => by simp only [Wk] at e; omega
  | k + 1, x, e => by
    obtain ⟨y, s, _, _, rfl⟩ := e
    exact ⟨Int.emod_nonneg _ (by omega), Int.emod_lt_of_pos _ hh⟩
/-- the least number of steps -/
def Ds (h : Int) (ns : List Int) (x : Int) (k : Nat) : Prop := Wk h ns k x ∧ ∀ j, j < k → ¬ Wk h ns j x
theorem Ds.uniq {h : Int} {ns : List Int} {x : Int} {k j : Nat} (a : Ds h ns x k) (b : Ds h ns x j) : k = j := by
  rcases Nat.lt_trichotomy k j with c | c | c
  · exact (b.2 k c a.1).elim
  · exact c
  · exact (a.2 j c b.1).elim
theorem least {P : Nat → Prop} : ∀ n : Nat, P n → ∃ k, P k ∧ ∀ j, j < k → ¬ P j := by
  intro n
  induction n using Nat.strongRecOn with
  | ind n ih =>
    intro hn
    by_cases c : ∃ j, j < n ∧ P j
    · obtain ⟨j, hj, pj⟩ := c
      exact ih j hj pj
    · exact ⟨n, hn, fun j hj pj => c ⟨j, hj, pj⟩⟩
theorem Ds.of {h : Int} {ns : List Int} {x : Int} {k : Nat} (w : Wk h ns k x) : ∃ j, j ≤ k ∧ Ds h ns x j := by
  obtain ⟨j, h1, h2⟩ := least (P := fun j => Wk h ns j x) k w
  exact ⟨j, Nat.not_lt.mp fun c => h2 k c w, h1, h2⟩
/-- the table: an hour's number, none where it is not reached -/
structure IsTab (h : Int) (ns : List Int) (t : List (Option Nat)) : Prop where
  len : (t.length : Int) = h
  yes : ∀ (i k : Nat), t[i]? = some (some k) → Ds h ns i k
  no : ∀ i : Nat, t[i]? = some none → ∀ k, ¬ Wk h ns k i
theorem IsTab.uniq {h : Int} {ns : List Int} {t u : List (Option Nat)} (a : IsTab h ns t) (b : IsTab h ns u) : t = u := by
  apply List.ext_getElem?
  intro i
  have hl : t.length = u.length := by have := a.len; have := b.len; omega
  by_cases c : i < t.length
  · have e1 : t[i]? = some t[i] := List.getElem?_eq_getElem c
    have e2 : u[i]? = some u[i] := List.getElem?_eq_getElem (by omega)
    rw [e1, e2]
    congr 1
    cases p : t[i] with
    | none =>
      cases q : u[i] with
      | none => rfl
      | some k => exact (a.no i (by rw [e1, p]) k (b.yes i k (by rw [e2, q])).1).elim
    | some k =>
      cases q : u[i] with
      | none => exact (b.no i (by rw [e2, q]) k (a.yes i k (by rw [e1, p])).1).elim
      | some j => exact congrArg some ((a.yes i k (by rw [e1, p])).uniq (b.yes i j (by rw [e2, q])))
  · rw [List.getElem?_eq_none (by omega), List.getElem?_eq_none (by omega)]
def oD : Option Nat → D
  | none => .none
  | some k => .int k
/-- steps that are the same as a set -/
theorem Wk.congr {h : Int} {ns ms : List Int} (e : ∀ s, s ∈ ns → ∃ s', s' ∈ ms ∧ s' % h = s % h) : ∀ {k : Nat} {x : Int}, Wk h ns k x → Wk h ms k x
  | 0, x, w => w
  | k + 1, x, ⟨y, s, w, m, ex⟩ => by
    obtain ⟨s', m', es⟩ := e s m
    refine ⟨y, s', Wk.congr e w, m', ?_⟩
    rw [ex, Int.add_emod, ← es, ← Int.add_emod]
theorem IsTab.congr {h : Int} {ns ms : List Int} {t : List (Option Nat)} (a : IsTab h ns t) (e : ∀ s, s ∈ ns → ∃ s', s' ∈ ms ∧ s' % h = s % h) (e' : ∀ s, s ∈ ms → ∃ s', s' ∈ ns ∧ s' % h = s % h) : IsTab h ms t :=
  ⟨a.len, fun i k q => ⟨Wk.congr e (a.yes i k q).1, fun j hj w => (a.yes i k q).2 j hj (Wk.congr e' w)⟩, fun i q k w => a.no i q k (Wk.congr e' w)⟩


/-! ### a table under way: all that takes at most u steps stands there -/
/-- a level is done: what takes at most u steps is found, l holds those of exactly u -/
structure Lev (h : Int) (ns : List Int) (u : Nat) (t : List (Option Nat)) (l : List Int) : Prop where
  len : (t.length : Int) = h
  yes : ∀ (i k : Nat), t[i]? = some (some k) → Ds h ns i k ∧ k ≤ u
  full : ∀ (i k : Nat), k ≤ u → Wk h ns k i → ∃ k', t[i]? = some (some k')
  lat : ∀ x ∈ l, ∃ i : Nat, x = i ∧ t[i]? = some (some u)
  lat' : ∀ i : Nat, t[i]? = some (some u) → (i : Int) ∈ l
/-- .. the next is under way -/
structure Mid (h : Int) (ns : List Int) (u n0 : Nat) (t0 t : List (Option Nat)) (l : List Int) : Prop where
  len : (t.length : Int) = h
  yes : ∀ (i k : Nat), t[i]? = some (some k) → Ds h ns i k ∧ k ≤ u + 1
  full : ∀ (i k : Nat), k ≤ u → Wk h ns k i → ∃ k', t[i]? = some (some k')
  lat : ∀ x ∈ l, ∃ i : Nat, x = i ∧ t[i]? = some (some (u + 1))
  lat' : ∀ i : Nat, t[i]? = some (some (u + 1)) → (i : Int) ∈ l
  cnt : t.count none + l.length = n0
  keep : ∀ (i k : Nat), t0[i]? = some (some k) → t[i]? = some (some k)
def Fnd (t : List (Option Nat)) (x : Int) : Prop := ∃ k : Nat, t[x.toNat]? = some (some k)
theorem Lev.mid {h : Int} {ns : List Int} {u : Nat} {t : List (Option Nat)} {l : List Int} (L : Lev h ns u t l) : Mid h ns u (t.count none) t t [] := by
  refine ⟨L.len, fun i k q => ⟨(L.yes i k q).1, by have := (L.yes i k q).2; omega⟩, L.full, by simp, fun i q => ?_, by simp, fun _ _ q => q⟩
  have := (L.yes i _ q).2
  omega
theorem Mid.step {h : Int} {ns : List Int} {u n0 : Nat} {t0 t : List (Option Nat)} {l : List Int} (hh : 0 < h) (M : Mid h ns u n0 t0 t l) {y s x : Int} (w : Wk h ns u y) (m : s ∈ ns) (e : x = (y + s) % h) (q : t[x.toNat]? = some none) :
    Mid h ns u n0 t0 (t.set x.toNat (some (u + 1))) (l ++ [x]) := by
  have w1 : Wk h ns (u + 1) x := ⟨y, s, w, m, e⟩
  have hx := w1.range hh
  have hxl : x.toNat < t.length := (List.getElem?_eq_some_iff.mp q).1
  have ex : ((x.toNat : Nat) : Int) = x := by omega
  have get : ∀ (i k : Nat), (t.set x.toNat (some (u + 1)))[i]? = some (some k) → (i = x.toNat ∧ k = u + 1) ∨ (i ≠ x.toNat ∧ t[i]? = some (some k)) := fun i k g => by
    by_cases c : x.toNat = i
    · subst c
      rw [List.getElem?_set_self hxl] at g
      cases g
      exact .inl ⟨rfl, rfl⟩
    · rw [List.getElem?_set_ne c] at g
      exact .inr ⟨Ne.symm c, g⟩
  have put : ∀ (i k : Nat), t[i]? = some (some k) → (t.set x.toNat (some (u + 1)))[i]? = some (some k) := fun i k g => by
    by_cases c : x.toNat = i
    · subst c; rw [q] at g; cases g
    · rw [List.getElem?_set_ne c]; exact g
  refine ⟨by rw [List.length_set]; exact M.len, fun i k g => ?_, fun i k hk w => ?_, fun z hz => ?_, fun i g => ?_, ?_, fun i k g => put i k (M.keep i k g)⟩
  · rcases get i k g with ⟨rfl, rfl⟩ | ⟨_, g⟩
    · rw [ex]
      refine ⟨⟨w1, fun j hj wj => ?_⟩, Nat.le_refl _⟩
      obtain ⟨k', g'⟩ := M.full x.toNat j (by omega) (by rw [ex]; exact wj)
      rw [q] at g'; cases g'
    · exact M.yes i k g
  · obtain ⟨k', g⟩ := M.full i k hk w
    exact ⟨k', put i k' g⟩
  · rcases List.mem_append.mp hz with hz | hz
    · obtain ⟨i, rfl, g⟩ := M.lat z hz
      exact ⟨i, rfl, put i _ g⟩
    · rw [List.mem_singleton.mp hz]
      exact ⟨x.toNat, ex.symm, List.getElem?_set_self hxl⟩
  · rcases get i _ g with ⟨rfl, _⟩ | ⟨_, g⟩
    · rw [ex]; exact List.mem_append_right _ List.mem_cons_self
    · exact List.mem_append_left _ (M.lat' i g)
  · have hc := M.cnt
    have e1 : t[x.toNat] = none := by
      have := (List.getElem?_eq_some_iff.mp q).2
      exact this
    have hm : 0 < t.count none := List.count_pos_iff.mpr (e1 ▸ List.getElem_mem hxl)
    rw [List.count_set hxl, List.length_append, List.length_singleton]
    simp [e1]
    omega
theorem Mid.lev {h : Int} {ns : List Int} {u n0 : Nat} {t0 t : List (Option Nat)} {l0 l : List Int} (hh : 0 < h) (L : Lev h ns u t0 l0) (M : Mid h ns u n0 t0 t l) (all : ∀ y ∈ l0, ∀ s ∈ ns, Fnd t ((y + s) % h)) : Lev h ns (u + 1) t l := by
  refine ⟨M.len, M.yes, fun i k hk w => ?_, M.lat, M.lat'⟩
  by_cases c : k ≤ u
  · exact M.full i k c w
  · have : k = u + 1 := by omega
    subst this
    obtain ⟨y, s, wy, m, e⟩ := w
    obtain ⟨v, hv, d⟩ := Ds.of wy
    have hy := wy.range hh
    have ey : ((y.toNat : Nat) : Int) = y := by omega
    by_cases c2 : v = u
    · subst c2
      obtain ⟨k', g⟩ := L.full y.toNat v (Nat.le_refl _) (by rw [ey]; exact wy)
      have h1 := (L.yes _ _ g).1
      rw [ey] at h1
      have := d.uniq h1
      subst this
      have h2 := L.lat' _ g
      rw [ey] at h2
      obtain ⟨z, hz⟩ := all y h2 s m
      rw [← e] at hz
      exact ⟨z, by simpa using hz⟩
    · exact M.full i (v + 1) (by omega) ⟨y, s, d.1, m, e⟩
theorem Lev.done {h : Int} {ns : List Int} {u : Nat} {t : List (Option Nat)} (hh : 0 < h) (L : Lev h ns u t []) : IsTab h ns t := by
  have all : ∀ (k : Nat) (i : Nat), Wk h ns k i → ∃ k', t[i]? = some (some k') := by
    intro k
    induction k with
    | zero => exact fun i w => L.full i 0 (Nat.zero_le _) w
    | succ k ih =>
      intro i w
      obtain ⟨y, s, wy, m, e⟩ := w
      have hy := wy.range hh
      have ey : ((y.toNat : Nat) : Int) = y := by omega
      obtain ⟨v, g⟩ := ih y.toNat (by rw [ey]; exact wy)
      have h1 := L.yes _ _ g
      rw [ey] at h1
      have : v ≠ u := fun c => by
        have := L.lat' y.toNat (c ▸ g)
        simp at this
      exact L.full i (v + 1) (by omega) ⟨y, s, h1.1.1, m, e⟩
  refine ⟨L.len, fun i k q => (L.yes i k q).1, fun i q k w => ?_⟩
  obtain ⟨k', g⟩ := all k i w
  rw [q] at g; cases g
theorem lev_zero {h : Int} {ns : List Int} (hh : 0 < h) : Lev h ns 0 (some 0 :: List.replicate (h.toNat - 1) none) [0] := by
  have get : ∀ (i k : Nat), (some 0 :: List.replicate (h.toNat - 1) none)[i]? = some (some k) → i = 0 ∧ k = 0 := fun i k q => by
    cases i with
    | zero => simp at q; exact ⟨rfl, q.symm⟩
    | succ i =>
      simp only [List.getElem?_cons_succ, List.getElem?_replicate] at q
      split at q <;> cases q
  refine ⟨by simp; omega, fun i k q => ?_, fun i k hk w => ?_, fun x hx => ?_, fun i q => ?_⟩
  · obtain ⟨rfl, rfl⟩ := get i k q
    exact ⟨⟨rfl, fun j hj => by omega⟩, Nat.le_refl _⟩
  · have : k = 0 := by omega
    subst this
    simp only [Wk] at w
    have : i = 0 := by omega
    subst this
    exact ⟨0, rfl⟩
  · rw [List.mem_singleton.mp hx]; exact ⟨0, rfl, rfl⟩
  · obtain ⟨rfl, _⟩ := get i 0 q
    simp
end PL

set_option Elab.async false
set_option linter.all false
set_option maxRecDepth 100000
set_option maxHeartbeats 4000000
namespace PL
open PySem L2
def b_table_in : WS := (wSeq (wPar 2 3 true false (wBin opMul (wLst (wCons (wC .none) wNil)) (wVar 0)) (wLst (wCons (wC (.int 0)) wNil)))
  (wSeq (wSetIx 2 (wC (.int 0)) (wC (.int 0)))
  (wSeq (wWhile (wT (wBin opNe (wVar 3) (wLst wNil))) (wSeq (wSet 4 true (wLst wNil))
  (wSeq (wFor (wSeqI (wVar 3)) (gN 5) (wFor (wSeqI (wVar 1)) (gN 6) (wSeq (wSet 7 false (wBin opMod (wBin opAdd (wVar 5) (wVar 6)) (wVar 0)))
  (wIfS (wT (wBin opIsN (wBin opIx (wVar 2) (wVar 7)) (wC .none))) (wSeq (wSetIx 2 (wVar 7) (wBin opAdd (wBin opIx (wVar 2) (wVar 5)) (wC (.int 1))))
  (wApp 4 (wVar 7))) wSkip))))
  (wSet 3 false (wMv 4)))))
  (wRet (wMv 2)))))
def sp_table_in : FSpec := fun ds q => ∃ (h : Int) (d : D) (ns : List Int), ds = [.int h, d] ∧ seqD d = some (ns.map .int) ∧ (1 ≤ h ∧ h ≤ 1000) ∧ ∀ t, IsTab h ns t → q (.fr (.list (t.map oD)))
theorem len_table_in : ∀ ds q, sp_table_in ds q → (if false then 1 else 0) + ds.length = 2 := by
  rintro ds q ⟨h, d, ns, rfl, _⟩; rfl
theorem Fnd.set {t : List (Option Nat)} {x z : Int} {v : Nat} (f : Fnd t z) (q : t[x.toNat]? = some none) : Fnd (t.set x.toNat (some v)) z := by
  obtain ⟨k, g⟩ := f
  refine ⟨k, ?_⟩
  by_cases c : x.toNat = z.toNat
  · rw [c, g] at q; cases q
  · rw [List.getElem?_set_ne c]; exact g
theorem map_set_oD (t : List (Option Nat)) (i : Nat) (v : Option Nat) : (t.map oD).set i (oD v) = (t.set i v).map oD := by rw [List.map_set]
theorem at_oD {t : List (Option Nat)} {x : Int} {v : Option Nat} (h0 : 0 ≤ x) (g : t[x.toNat]? = some v) : atI (t.map oD) x = some (oD v) := atI_some h0 (by rw [List.getElem?_map, g]; rfl)
abbrev tbB : WS := (wSeq (wSet 7 false (wBin opMod (wBin opAdd (wVar 5) (wVar 6)) (wVar 0)))
            (wIfS (wT (wBin opIsN (wBin opIx (wVar 2) (wVar 7)) (wC PyData.none)))
              (wSeq (wSetIx 2 (wVar 7) (wBin opAdd (wBin opIx (wVar 2) (wVar 5)) (wC (PyData.int 1))))
                (wApp 4 (wVar 7)))
              wSkip))
theorem isN_oD (k : Nat) : isN (oD (some k)) = false := rfl
theorem tb_inner {h : Int} {ns : List Int} {u n0 iy : Nat} {t0 t : List (Option Nat)} {l : List Int} {y : Int} {sd sl : Option SV} {E : PEnds} (h1 : 1 ≤ h) (h2 : h ≤ 1000) (hn0 : n0 ≤ 1000) (wy : Wk h ns u y) (gy : t[iy]? = some (some u)) (ey : y.toNat = iy) (M : Mid h ns u n0 t0 t l)
    (hE : ∀ t2 l2 x6 x7, Mid h ns u n0 t0 t2 l2 → (∀ s ∈ ns, Fnd t2 ((y + s) % h)) → (∀ z, Fnd t z → Fnd t2 z) → E.nx [some (.val (.int h)), sd, some (.own (.list (t2.map oD))), sl, some (.own (.list (l2.map .int))), some (.val (.int y)), x6, x7])
    {x6 x7 : Option SV} : forL (gN 6) tbB E (List.map PyData.int ns) [some (.val (.int h)), sd, some (.own (.list (t.map oD))), sl, some (.own (.list (l.map .int))), some (.val (.int y)), x6, x7] := by
  have ry := wy.range (by omega)
  refine forL_ind (fun rest ρ => ∃ t2 l2 dn rs x6 x7, rest = List.map PyData.int rs ∧ ns = dn ++ rs ∧ Mid h ns u n0 t0 t2 l2 ∧ (∀ s ∈ dn, Fnd t2 ((y + s) % h)) ∧ (∀ z, Fnd t z → Fnd t2 z) ∧ t2[iy]? = some (some u) ∧
    ρ = [some (.val (.int h)), sd, some (.own (.list (t2.map oD))), sl, some (.own (.list (l2.map .int))), some (.val (.int y)), x6, x7]) ?_ ?_ _ _ ⟨t, l, [], ns, x6, x7, rfl, rfl, M, by simp, fun _ z => z, gy, rfl⟩
  · rintro e es ρ ⟨t2, l2, dn, rs, x6, x7, e2, e3, M2, ha, hk, g2, rfl⟩ ih
    cases rs with
    | nil => cases e2
    | cons s rs =>
      cases e2
      have hs : s ∈ ns := by rw [e3]; exact List.mem_append_right _ List.mem_cons_self
      have hx0 := Int.emod_nonneg (y + s) (show h ≠ 0 by omega)
      have hx1 := Int.emod_lt_of_pos (y + s) (show 0 < h by omega)
      have hlen := M2.len
      have hlt : ((y + s) % h).toNat < t2.length := by omega
      have gx : t2[((y + s) % h).toNat]? = some t2[((y + s) % h).toNat] := List.getElem?_eq_getElem hlt
      generalize hv : t2[((y + s) % h).toNat] = v at gx
      have ax := at_oD hx0 gx
      have ay := at_oD ry.1 (by rw [ey]; exact g2)
      have bnd : (l2.map PyData.int).length < 16777216 := by
        have := M2.cnt
        rw [List.length_map]
        omega
      simp [ax]
      refine ⟨by omega, ?_⟩
      cases v with
      | some k =>
        simp [isN_oD]
        exact ih _ ⟨t2, l2, dn ++ [s], rs, _, _, rfl, by rw [e3, List.append_assoc]; rfl, M2, fun z hz => by
          rcases List.mem_append.mp hz with hz | hz
          · exact ha z hz
          · rw [List.mem_singleton.mp hz]; exact ⟨k, gx⟩, hk, g2, rfl⟩
      | none =>
        have M3 := M2.step (by omega) wy hs rfl gx
        have e4 : ixN t2.length ((y + s) % h) = some ((y + s) % h).toNat := ixN_some hx0 (by omega)
        simp [oD, isN, ay, e4]
        refine ⟨by simpa using bnd, ih _ ⟨_, _, dn ++ [s], rs, some (.val (.int s)), some (.val (.int ((y + s) % h))), rfl, by rw [e3, List.append_assoc]; rfl, M3, fun z hz => ?_, fun z f => (hk z f).set gx, ?_, ?_⟩⟩
        · rcases List.mem_append.mp hz with hz | hz
          · exact (ha z hz).set gx
          · rw [List.mem_singleton.mp hz]; exact ⟨u + 1, List.getElem?_set_self hlt⟩
        · rw [List.getElem?_set_ne fun c => by rw [c, g2] at gx; cases gx]; exact g2
        · rw [List.map_set, List.map_append]; rfl
  · rintro ρ ⟨t2, l2, dn, rs, x6, x7, e2, e3, M2, ha, hk, g2, rfl⟩
    cases rs with
    | cons y rs => cases e2
    | nil => exact hE t2 l2 x6 x7 M2 (by rw [e3, List.append_nil]; exact ha) hk
theorem ok_table_in : ∀ ds q, sp_table_in ds q → b_table_in { nx := fun _ => q (.im .none), rt := q } (init ["hours", "steps", "found", "line", "later", "here", "step", "hour"] false ds) := by
  rintro ds q ⟨h, d, ns, rfl, hd, ⟨h1, h2⟩, hq⟩
  have hn : ∃ n : Nat, h.toNat = n + 1 := ⟨h.toNat - 1, by omega⟩
  obtain ⟨n, hn⟩ := hn
  have e0 : ixN (n + 1) 0 = some 0 := ixN_some (by omega) (by omega)
  have e1 : (List.replicate (n + 1) PyData.none).set 0 (PyData.int 0) = (some 0 :: List.replicate n none).map oD := by simp [List.replicate_succ, oD]
  simp [b_table_in, init, hn, e0, -List.replicate_succ]
  refine ⟨by omega, by omega, by omega, ?_⟩
  rw [e1]
  have L0 := lev_zero (ns := ns) (h := h) (by omega)
  rw [show h.toNat - 1 = n by omega] at L0
  refine ⟨fun m ρ => ∃ u t l x4 x5 x6 x7, Lev h ns u t l ∧ l.length ≤ 1000 ∧ m = 2 * t.count none + (if l = [] then 0 else 1) ∧ ρ = [some (.val (.int h)), some (.val d), some (.own (.list (t.map oD))), some (.val (.list (l.map .int))), x4, x5, x6, x7], ⟨_, 0, _, [0], none, none, none, none, L0, by decide, rfl, rfl⟩, ?_⟩
  rintro m ρ ⟨u, t, l, x4, x5, x6, x7, L, hl, rfl, rfl⟩
  simp
  refine ⟨(okS_ints l (by omega)).okD, ?_⟩
  split
  · rename_i c
    subst c
    exact hq t (L.done (by omega))
  rename_i hne
  have hlen := L.len
  refine forL_ind (fun rest ρ => ∃ t' l' dn rs x5 x6 x7, rest = List.map PyData.int rs ∧ l = dn ++ rs ∧ Mid h ns u (t.count none) t t' l' ∧ (∀ y ∈ dn, ∀ s ∈ ns, Fnd t' ((y + s) % h)) ∧
    ρ = [some (.val (.int h)), some (.val d), some (.own (.list (t'.map oD))), some (.val (.list (l.map .int))), some (.own (.list (l'.map .int))), x5, x6, x7]) ?_ ?_ _ _ ⟨t, [], [], l, x5, x6, x7, rfl, rfl, L.mid, by simp, rfl⟩
  · rintro e es ρ ⟨t', l', dn, rs, x5, x6, x7, e2, e3, M, ha, rfl⟩ ih
    cases rs with
    | nil => cases e2
    | cons y rs =>
      cases e2
      obtain ⟨iy, ey, gy⟩ := L.lat y (by rw [e3]; exact List.mem_append_right _ List.mem_cons_self)
      have wy : Wk h ns u y := by rw [ey]; exact (L.yes _ _ gy).1.1
      have ry := wy.range (by omega)
      have sq : seqD d = some (List.map PyData.int ns) := hd
      have hd' : d = .list (ns.map .int) ∨ d = .tuple (ns.map .int) := by cases d <;> simp_all [seqD]
      have fin : ∀ (E : PEnds), E.nx = _ → forL (gN 6) tbB E (List.map PyData.int ns) [some (.val (.int h)), some (.val d), some (.own (.list (t'.map oD))), some (.val (.list (l.map .int))), some (.own (.list (l'.map .int))), some (.val (.int y)), x6, x7] := fun E eE =>
        tb_inner h1 h2 (by have := List.count_le_length (a := (none : Option Nat)) (l := t); omega) wy (M.keep _ _ gy) (by rw [ey]; rfl) M fun t2 l2 x6 x7 M2 a2 k2 => by
          rw [eE]
          refine ih _ ⟨t2, l2, dn ++ [y], rs, _, x6, x7, rfl, by rw [e3, List.append_assoc]; rfl, M2, fun z hz s hs => ?_, rfl⟩
          rcases List.mem_append.mp hz with hz | hz
          · exact k2 _ (ha z hz s hs)
          · rw [List.mem_singleton.mp hz]; exact a2 s hs
      rcases hd' with rfl | rfl
      · simp
        exact fin _ rfl
      · simp
        exact fin _ rfl
  · rintro ρ ⟨t', l', dn, rs, x5, x6, x7, e2, e3, M, ha, rfl⟩
    cases rs with
    | cons y rs => cases e2
    | nil =>
      simp
      have Lv := M.lev (by omega) L (by rw [e3, List.append_nil]; exact ha)
      have c1 := M.cnt
      have c2 := List.count_le_length (a := (none : Option Nat)) (l := t)
      refine ⟨_, ?_, u + 1, t', l', Lv, by omega, rfl, rfl, rfl⟩
      split
      · omega
      · rename_i c
        have := List.length_pos_iff.mpr c
        omega

/-! ### depth, both directions -/
def oMax : List (Option Nat) → Option Nat
  | [] => some 0
  | none :: _ => none
  | some k :: r => (oMax r).map (max k)
def b_depth_in : WS := (wRet (wIf (wT (wBin (opIn true) (wC .none) (wVar 0))) (wUn opMax (wVar 0)) (wC .none)))
/-- the depth of a table: none, or its greatest number -/
def IsDep (t : List (Option Nat)) (o : Option Nat) : Prop := match o with
  | none => none ∈ t
  | some k => none ∉ t ∧ some k ∈ t ∧ ∀ j, some j ∈ t → j ≤ k
theorem IsDep.uniq {t : List (Option Nat)} {o p : Option Nat} (a : IsDep t o) (b : IsDep t p) : o = p := by
  cases o with
  | none =>
    cases p with
    | none => rfl
    | some k => exact (b.1 a).elim
  | some j =>
    cases p with
    | none => exact (a.1 b).elim
    | some k => exact congrArg some (Nat.le_antisymm (b.2.2 j a.2.1) (a.2.2 k b.2.1))
def sp_depth_in : FSpec := fun ds q => ∃ t, ds = [.list (t.map oD)] ∧ t ≠ [] ∧ ∀ o, IsDep t o → q (.im (oD o))
theorem len_depth_in : ∀ ds q, sp_depth_in ds q → (if false then 1 else 0) + ds.length = 1 := by
  rintro ds q ⟨t, rfl, _⟩; rfl
theorem inD_none (t : List (Option Nat)) : inD .none (t.map oD) = decide (none ∈ t) := by
  unfold inD
  rw [List.any_map]
  induction t with
  | nil => simp
  | cons x r ih => cases x <;> simp [oD, PyData.eqv, ih]
theorem flat_oD (t : List (Option Nat)) : (t.map oD).all flatD = true := by
  rw [List.all_map, List.all_eq_true]
  intro x _
  cases x <;> rfl
theorem all_some {t : List (Option Nat)} (h : none ∉ t) : ∃ ks : List Nat, t = ks.map some := by
  induction t with
  | nil => exact ⟨[], rfl⟩
  | cons x r ih =>
    obtain ⟨ks, e⟩ := ih fun m => h (List.mem_cons_of_mem _ m)
    cases x with
    | none => simp at h
    | some k => exact ⟨k :: ks, by rw [e]; rfl⟩
theorem ints_some (ks : List Nat) : (ks.map some).map oD = (ks.map fun k : Nat => (k : Int)).map PyData.int := by
  rw [List.map_map, List.map_map]; rfl
/-- max of such a table -/
theorem max_some {ks : List Nat} {m : Int} (h1 : m ∈ ks.map fun k : Nat => (k : Int)) (h2 : ∀ y ∈ ks.map (fun k : Nat => (k : Int)), y ≤ m) : ∃ k : Nat, m = k ∧ IsDep (ks.map some) (some k) := by
  obtain ⟨k, hk, rfl⟩ := List.mem_map.mp h1
  refine ⟨k, rfl, by simp, List.mem_map.mpr ⟨k, hk, rfl⟩, fun j hj => ?_⟩
  obtain ⟨j', hj', e⟩ := List.mem_map.mp hj
  cases e
  have := h2 _ (List.mem_map.mpr ⟨j, hj', rfl⟩)
  omega
theorem ok_depth_in : ∀ ds q, sp_depth_in ds q → b_depth_in { nx := fun _ => q (.im .none), rt := q } (init ["table"] false ds) := by
  rintro ds q ⟨t, rfl, hn, hq⟩
  simp [b_depth_in, init, inD_none, flat_oD]
  refine ⟨rfl, fun x _ => by cases x <;> rfl, ?_⟩
  split
  · rename_i c
    exact hq none c
  · rename_i c
    obtain ⟨ks, rfl⟩ := all_some c
    rw [ints_some]
    refine ⟨_, intsD_map _, ?_, fun m h1 h2 => ?_⟩
    · simpa using hn
    · obtain ⟨k, rfl, d⟩ := max_some h1 h2
      exact hq (some k) d
end PL

set_option Elab.async false
set_option linter.all false
set_option maxRecDepth 100000
set_option maxHeartbeats 4000000
namespace PL
open PySem L2
def b__law_dials : WS := (wSeq (wSet 2 true (wBin opAdd (wLst (wCons (wC (.int 0)) wNil)) (wBin opMul (wLst (wCons (wC .none) wNil)) (wBin opSub (wVar 0) (wC (.int 1))))))
  (wSeq (wFor (wRng2 (wC (.int 1)) (wBin opAdd (wVar 0) (wC (.int 1)))) (gN 3) (wFor (wSeqI (wComp [7] (wRng1 (wVar 0)) (gN 7) (wT (wBin opEq (wBin opIx (wVar 2) (wVar 7)) (wBin opSub (wVar 3) (wC (.int 1))))) (wVar 7))) (gN 4) (wFor (wSeqI (wVar 1)) (gN 5) (wSeq (wSet 6 false (wBin opMod (wUn opInt (wBin opAdd (wVar 4) (wVar 5))) (wVar 0)))
  (wSetIx 2 (wVar 6) (wIf (wT (wBin opIsN (wBin opIx (wVar 2) (wVar 6)) (wC .none))) (wVar 3) (wBin opIx (wVar 2) (wVar 6))))))))
  (wRet (wMv 2))))

def sp__law_dials : FSpec := fun ds q => ∃ (h : Int) (d : D) (ns : List Int), ds = [.int h, d] ∧ seqD d = some (ns.map .int) ∧ (1 ≤ h ∧ h ≤ 1000) ∧ ∀ t, IsTab h ns t → q (.fr (.list (t.map oD)))
theorem len__law_dials : ∀ ds q, sp__law_dials ds q → (if false then 1 else 0) + ds.length = 2 := by
  rintro ds q ⟨h, d, ns, rfl, _⟩; rfl
abbrev dlB : WS := (wSeq (wSet 6 false (wBin opMod (wUn opInt (wBin opAdd (wVar 4) (wVar 5))) (wVar 0)))
  (wSetIx 2 (wVar 6) (wIf (wT (wBin opIsN (wBin opIx (wVar 2) (wVar 6)) (wC .none))) (wVar 3) (wBin opIx (wVar 2) (wVar 6)))))
theorem dl_inner {h : Int} {ns : List Int} {u n0 : Nat} {t0 t : List (Option Nat)} {l : List Int} {y : Int} {sd : Option SV} {E : PEnds} (h1 : 1 ≤ h) (h2 : h ≤ 1000) (wy : Wk h ns u y) (M : Mid h ns u n0 t0 t l)
    (hE : ∀ t2 l2 x5 x6, Mid h ns u n0 t0 t2 l2 → (∀ s ∈ ns, Fnd t2 ((y + s) % h)) → (∀ z, Fnd t z → Fnd t2 z) → E.nx [some (.val (.int h)), sd, some (.own (.list (t2.map oD))), some (.val (.int (u + 1))), some (.val (.int y)), x5, x6, none])
    {x5 x6 : Option SV} : forL (gN 5) dlB E (List.map PyData.int ns) [some (.val (.int h)), sd, some (.own (.list (t.map oD))), some (.val (.int (u + 1))), some (.val (.int y)), x5, x6, none] := by
  have ry := wy.range (by omega)
  refine forL_ind (fun rest ρ => ∃ t2 l2 dn rs x5 x6, rest = List.map PyData.int rs ∧ ns = dn ++ rs ∧ Mid h ns u n0 t0 t2 l2 ∧ (∀ s ∈ dn, Fnd t2 ((y + s) % h)) ∧ (∀ z, Fnd t z → Fnd t2 z) ∧
    ρ = [some (.val (.int h)), sd, some (.own (.list (t2.map oD))), some (.val (.int (u + 1))), some (.val (.int y)), x5, x6, none]) ?_ ?_ _ _ ⟨t, l, [], ns, x5, x6, rfl, rfl, M, by simp, fun _ z => z, rfl⟩
  · rintro e es ρ ⟨t2, l2, dn, rs, x5, x6, e2, e3, M2, ha, hk, rfl⟩ ih
    cases rs with
    | nil => cases e2
    | cons s rs =>
      cases e2
      have hs : s ∈ ns := by rw [e3]; exact List.mem_append_right _ List.mem_cons_self
      have hx0 := Int.emod_nonneg (y + s) (show h ≠ 0 by omega)
      have hx1 := Int.emod_lt_of_pos (y + s) (show 0 < h by omega)
      have hlen := M2.len
      have hlt : ((y + s) % h).toNat < t2.length := by omega
      have gx : t2[((y + s) % h).toNat]? = some t2[((y + s) % h).toNat] := List.getElem?_eq_getElem hlt
      have e4 : ixN t2.length ((y + s) % h) = some ((y + s) % h).toNat := ixN_some hx0 (by omega)
      generalize hv : t2[((y + s) % h).toNat] = v at gx
      have ax := at_oD hx0 gx
      simp [ax]
      refine ⟨by omega, ?_⟩
      cases v with
      | some k =>
        have e5 : (List.map oD t2).set ((y + s) % h).toNat (oD (some k)) = List.map oD t2 := by
          rw [map_set_oD, ← hv, List.set_getElem_self]
        simp [isN_oD, ax, e4, e5]
        exact ih _ ⟨t2, l2, dn ++ [s], rs, some (.val (.int s)), some (.val (.int ((y + s) % h))), rfl, by rw [e3, List.append_assoc]; rfl, M2, fun z hz => by
          rcases List.mem_append.mp hz with hz | hz
          · exact ha z hz
          · rw [List.mem_singleton.mp hz]; exact ⟨k, gx⟩, hk, rfl⟩
      | none =>
        have M3 := M2.step (by omega) wy hs rfl gx
        simp [oD, isN, e4]
        refine ih _ ⟨_, _, dn ++ [s], rs, some (.val (.int s)), some (.val (.int ((y + s) % h))), rfl, by rw [e3, List.append_assoc]; rfl, M3, fun z hz => ?_, fun z f => (hk z f).set gx, ?_⟩
        · rcases List.mem_append.mp hz with hz | hz
          · exact (ha z hz).set gx
          · rw [List.mem_singleton.mp hz]; exact ⟨u + 1, List.getElem?_set_self hlt⟩
        · rw [List.map_set]; rfl
  · rintro ρ ⟨t2, l2, dn, rs, x5, x6, e2, e3, M2, ha, hk, rfl⟩
    cases rs with
    | cons y rs => cases e2
    | nil => exact hE t2 l2 x5 x6 M2 (by rw [e3, List.append_nil]; exact ha) hk
/-- where a table that is whole goes on -/
theorem Mid.tab {h : Int} {ns : List Int} {u n0 : Nat} {t0 t : List (Option Nat)} {l : List Int} (M : Mid h ns u n0 t0 t l) (T : IsTab h ns t0) : IsTab h ns t := by
  refine ⟨M.len, fun i k q => (M.yes i k q).1, fun i q => ?_⟩
  have hi : i < t0.length := by
    have := (List.getElem?_eq_some_iff.mp q).1
    have := M.len
    have := T.len
    omega
  cases e : t0[i] with
  | none => exact T.no i (by rw [List.getElem?_eq_getElem hi, e])
  | some k =>
    have := M.keep i k (by rw [List.getElem?_eq_getElem hi, e])
    rw [q] at this; cases this
def atU (t : List (Option Nat)) (u : Nat) (d : D) : Option D := match d with | .int i => if t[i.toNat]? = some (some u) then some (.int i) else none | _ => none
theorem items_of (t : List (Option Nat)) (u : Nat) : ∀ (n lo : Nat), ∃ ys : List Int, List.filterMap (atU t u) (rangeD lo n) = ys.map .int ∧ (∀ y ∈ ys, ∃ i : Nat, y = i ∧ t[i]? = some (some u)) ∧ ∀ i : Nat, lo ≤ i → i < lo + n → t[i]? = some (some u) → (i : Int) ∈ ys
  | 0, lo => ⟨[], rfl, by simp, fun i _ _ => by omega⟩
  | n + 1, lo => by
    obtain ⟨ys, a1, a2, a3⟩ := items_of t u n (lo + 1)
    rw [rangeD_succ]
    have e : atU t u (.int lo) = if t[lo]? = some (some u) then some (.int lo) else none := by simp [atU]
    by_cases c : t[lo]? = some (some u)
    · rw [if_pos c] at e
      refine ⟨lo :: ys, by rw [List.filterMap_cons_some e]; simpa using a1, fun y hy => ?_, fun i h1 h2 h3 => ?_⟩
      · rcases List.mem_cons.mp hy with rfl | hy
        · exact ⟨lo, rfl, c⟩
        · exact a2 y hy
      · by_cases c2 : i = lo
        · subst c2; exact List.mem_cons_self
        · exact List.mem_cons_of_mem _ (a3 i (by omega) (by omega) h3)
    · rw [if_neg c] at e
      refine ⟨ys, by rw [List.filterMap_cons_none e]; simpa using a1, a2, fun i h1 h2 h3 => a3 i ?_ (by omega) h3⟩
      by_cases c2 : i = lo
      · subst c2; exact (c h3).elim
      · omega
theorem ok__law_dials : ∀ ds q, sp__law_dials ds q → b__law_dials { nx := fun _ => q (.im .none), rt := q } (init ["hours", "steps", "found", "used", "hour", "step", "there", "here"] false ds) := by
  rintro ds q ⟨h, d, ns, rfl, hd, ⟨h1, h2⟩, hq⟩
  have e1 : PyData.int 0 :: List.replicate (h.toNat - 1) PyData.none = (some 0 :: List.replicate (h.toNat - 1) none).map oD := by simp [oD]
  have hd' : d = .list (ns.map .int) ∨ d = .tuple (ns.map .int) := by cases d <;> simp_all [seqD]
  simp [b__law_dials, init]
  rw [e1]
  refine ⟨by omega, by omega, by omega, by omega, ⟨by omega, by omega⟩, ?_⟩
  refine forL_ind (fun rest ρ => ∃ (u n : Nat) (t : List (Option Nat)) (l : List Int) (x3 x4 x5 x6 : Option SV), rest = rangeD ((u : Int) + 1) n ∧ u + n = h.toNat ∧ Lev h ns u t l ∧ (t.count none + u + 1 ≤ h.toNat ∨ IsTab h ns t) ∧
    ρ = [some (.val (.int h)), some (.val d), some (.own (.list (t.map oD))), x3, x4, x5, x6, none]) ?_ ?_ _ _ ⟨0, h.toNat, _, [0], none, none, none, none, by congr 1; omega, by omega, lev_zero (by omega), .inl (by simp; omega), rfl⟩
  · rintro e es ρ ⟨u, n, t, l, x3, x4, x5, x6, e2, e3, L, co, rfl⟩ ih
    cases n with
    | zero => simp [rangeD] at e2
    | succ n =>
      rw [rangeD_succ] at e2
      cases e2
      have hlen := L.len
      simp
      refine ⟨by omega, by omega, by omega, ?_⟩
      refine compL_det (atU t u) _ _ _ (fun d' hd' Kt Kf k => ?_) ?_
      · obtain ⟨i, hi, rfl⟩ := mem_rangeD hd'
        simp only [Int.zero_add] at k ⊢
        have gi : t[i]? = some t[i] := List.getElem?_eq_getElem (by omega)
        generalize t[i] = v at gi
        have ai := at_oD (t := t) (x := (i : Int)) (by omega) (by simpa using gi)
        simp [ai]
        have e6 : ((u : Int) + 1 - 1) = u := by omega
        simp only [atU, Int.toNat_natCast, gi] at k
        cases v with
        | none => simp [oD, PyData.eqv] at k ⊢; exact k
        | some j =>
          simp [oD, e6] at k ⊢
          by_cases c : j = u
          · simp [c] at k ⊢; exact k
          · have c' : ¬ (j : Int) = u := by omega
            simp [c, c'] at k ⊢; exact k
      · have items : ∃ ys : List Int, List.filterMap (atU t u) (rangeD 0 h.toNat) = ys.map .int ∧ (∀ y ∈ ys, ∃ i : Nat, y = i ∧ t[i]? = some (some u)) ∧ ∀ i : Nat, t[i]? = some (some u) → (i : Int) ∈ ys := by
          obtain ⟨ys, a1, a2, a3⟩ := items_of t u h.toNat 0
          refine ⟨ys, a1, a2, fun i hi => a3 i (Nat.zero_le _) ?_ hi⟩
          have := (List.getElem?_eq_some_iff.mp hi).1
          omega
        obtain ⟨ys, ey, hy1, hy2⟩ := items
        rw [List.nil_append, ey]
        simp
        have L' : Lev h ns u t ys := ⟨L.len, L.yes, L.full, hy1, hy2⟩
        refine forL_ind (fun rest ρ => ∃ t2 l2 dn rs x4 x5 x6, rest = List.map PyData.int rs ∧ ys = dn ++ rs ∧ Mid h ns u (t.count none) t t2 l2 ∧ (∀ y ∈ dn, ∀ s ∈ ns, Fnd t2 ((y + s) % h)) ∧
          ρ = [some (.val (.int h)), some (.val d), some (.own (.list (t2.map oD))), some (.val (.int (u + 1))), x4, x5, x6, none]) ?_ ?_ _ _ ⟨t, [], [], ys, x4, x5, x6, rfl, rfl, L'.mid, by simp, rfl⟩
        · rintro e es ρ ⟨t2, l2, dn, rs, x4, x5, x6, e2, e5, M, ha, rfl⟩ ih2
          cases rs with
          | nil => cases e2
          | cons y rs =>
            cases e2
            obtain ⟨iy, ey, gy⟩ := hy1 y (by rw [e5]; exact List.mem_append_right _ List.mem_cons_self)
            have wy : Wk h ns u y := by rw [ey]; exact (L.yes _ _ gy).1.1
            have fin : ∀ (E : PEnds), E.nx = _ → forL (gN 5) dlB E (List.map PyData.int ns) [some (.val (.int h)), some (.val d), some (.own (.list (t2.map oD))), some (.val (.int (u + 1))), some (.val (.int y)), x5, x6, none] := fun E eE =>
              dl_inner h1 h2 wy M fun t3 l3 x5 x6 M3 a3 k3 => by
                rw [eE]
                refine ih2 _ ⟨t3, l3, dn ++ [y], rs, _, x5, x6, rfl, by rw [e5, List.append_assoc]; rfl, M3, fun z hz s hs => ?_, rfl⟩
                rcases List.mem_append.mp hz with hz | hz
                · exact k3 _ (ha z hz s hs)
                · rw [List.mem_singleton.mp hz]; exact a3 s hs
            rcases hd' with rfl | rfl
            · simp
              exact fin _ rfl
            · simp
              exact fin _ rfl
        · rintro ρ ⟨t2, l2, dn, rs, x4, x5, x6, e2, e5, M, ha, rfl⟩
          cases rs with
          | cons y rs => cases e2
          | nil =>
            have Lv := M.lev (by omega) L' (by rw [e5, List.append_nil]; exact ha)
            have c1 := M.cnt
            refine ih _ ⟨u + 1, n, t2, l2, _, x4, x5, x6, by congr 1, by omega, Lv, ?_, rfl⟩
            rcases co with co | co
            · by_cases c : l2 = []
              · subst c
                exact .inr (Lv.done (by omega))
              · have := List.length_pos_iff.mpr c
                exact .inl (by omega)
            · exact .inr (M.tab co)
  · rintro ρ ⟨u, n, t, l, x3, x4, x5, x6, e2, e3, L, co, rfl⟩
    cases n with
    | succ n => rw [rangeD_succ] at e2; cases e2
    | zero =>
      simp
      rcases co with co | co
      · omega
      · exact hq t co
end PL

set_option Elab.async false
set_option linter.all false
set_option maxRecDepth 100000
set_option maxHeartbeats 4000000
namespace PL
open PySem L2
def DepOf (h : Int) (ns : List Int) (o : Option Nat) : Prop := ∃ t, IsTab h ns t ∧ IsDep t o
theorem DepOf.uniq {h : Int} {ns : List Int} {o p : Option Nat} : DepOf h ns o → DepOf h ns p → o = p := fun ⟨t, a, b⟩ ⟨u, c, d⟩ => by
  cases a.uniq c
  exact b.uniq d
theorem IsTab.ne {h : Int} (hh : 1 ≤ h) {ns : List Int} {t : List (Option Nat)} (T : IsTab h ns t) : t ≠ [] := fun e => by
  have := T.len
  rw [e] at this
  simp at this
  omega
def sp__law_depth : FSpec := fun ds q => ∃ (h : Int) (d : D) (ns : List Int), ds = [.int h, d] ∧ seqD d = some (ns.map .int) ∧ (1 ≤ h ∧ h ≤ 1000) ∧ ∀ o, DepOf h ns o → q (.im (oD o))
def b__law_depth : WS := (wSeq (wSet 2 false (wCall sp__law_dials (wCons (wVar 0) (wCons (wVar 1) wNil))))
  (wRet (wIf (wT (wBin (opIn false) (wC .none) (wVar 2))) (wC .none) (wUn opMax (wVar 2)))))
theorem len__law_depth : ∀ ds q, sp__law_depth ds q → (if false then 1 else 0) + ds.length = 2 := by
  rintro ds q ⟨h, d, ns, rfl, _⟩; rfl
theorem ok__law_depth : ∀ ds q, sp__law_depth ds q → b__law_depth { nx := fun _ => q (.im .none), rt := q } (init ["hours", "steps", "found"] false ds) := by
  rintro ds q ⟨h, d, ns, rfl, hd, hh, hq⟩
  simp [b__law_depth, init]
  refine ⟨h, d, ns, rfl, hd, hh, fun t T => ?_⟩
  have hn := T.ne hh.1
  simp [inD_none, flat_oD]
  refine ⟨rfl, fun x _ => by cases x <;> rfl, ?_⟩
  split
  · rename_i c
    exact hq none ⟨t, T, c⟩
  · rename_i c
    obtain ⟨ks, rfl⟩ := all_some c
    rw [ints_some]
    refine ⟨_, intsD_map _, ?_, fun m h1 h2 => ?_⟩
    · simpa using hn
    · obtain ⟨k, rfl, e⟩ := max_some h1 h2
      exact hq (some k) ⟨_, T, e⟩
/-- members of a clock -/
def Mem (h : Int) (ns : List Int) : Prop := (∀ n ∈ ns, 0 ≤ n ∧ n ≤ h - 1) ∧ ns.Pairwise (· < ·)
def sp_clock_depth : FSpec := fun ds q => ∃ (h : Int) (ns : List Int), ds = [.int h, .tuple (ns.map .int)] ∧ (1 ≤ h ∧ h ≤ 400) ∧ ns.length ≤ 1000 ∧ Mem h ns ∧ ∀ o, DepOf h ns o → q (.im (oD o))
theorem u_need_clock_set {h : Int} {ns : List Int} {k : Res → Prop} (hh : 1 ≤ h ∧ h ≤ 400) (hl : ns.length ≤ 1000) (m : Mem h ns) (hk : k (.im .none)) : @appS sp_need_clock_set [.int h, .tuple (ns.map .int)] ⟨k⟩ :=
  ⟨h, ns, rfl, hh, by omega, membB_of m.1 m.2, hk⟩
def b_clock_depth : WS := (wSeq (wExp (wCall sp_need_clock_set (wCons (wVar 0) (wCons (wVar 1) wNil))))
  (wRet (wCall sp_depth_in (wCons (wCall sp_table_in (wCons (wVar 0) (wCons (wVar 1) wNil))) wNil))))
theorem len_clock_depth : ∀ ds q, sp_clock_depth ds q → (if false then 1 else 0) + ds.length = 2 := by
  rintro ds q ⟨h, ns, rfl, _⟩; rfl
theorem ok_clock_depth : ∀ ds q, sp_clock_depth ds q → b_clock_depth { nx := fun _ => q (.im .none), rt := q } (init ["hours", "one"] false ds) := by
  rintro ds q ⟨h, ns, rfl, hh, hl, m, hq⟩
  simp [b_clock_depth, init]
  refine u_need_clock_set hh hl m ?_
  refine ⟨h, _, ns, rfl, rfl, by omega, fun t T => ?_⟩
  simp
  exact ⟨t, rfl, T.ne hh.1, fun o e => ⟨trivial, hq o ⟨t, T, e⟩⟩⟩
/-- a step either way -/
def Both (h : Int) (ns ms : List Int) : Prop := ms.Pairwise (· < ·) ∧ ∀ j, j ∈ ms ↔ ∃ s ∈ ns, j = s % h ∨ j = (h - s) % h
def sp_both_of : FSpec := fun ds q => ∃ (h : Int) (ns : List Int), ds = [.int h, .tuple (ns.map .int)] ∧ (1 ≤ h ∧ h ≤ 400) ∧ ns.length ≤ 1000 ∧ ∀ ms, Both h ns ms → q (.fr (.list (ms.map .int)))
def b_both_of : WS := (wRet (wUn opSortSet (wBin opAdd (wComp [2] (wSeqI (wVar 1)) (gN 2) wYes (wBin opMod (wVar 2) (wVar 0))) (wComp [2] (wSeqI (wVar 1)) (gN 2) wYes (wBin opMod (wBin opSub (wVar 0) (wVar 2)) (wVar 0))))))
theorem len_both_of : ∀ ds q, sp_both_of ds q → (if false then 1 else 0) + ds.length = 2 := by
  rintro ds q ⟨h, ns, rfl, _⟩; rfl
theorem ok_both_of : ∀ ds q, sp_both_of ds q → b_both_of { nx := fun _ => q (.im .none), rt := q } (init ["hours", "members", "one"] false ds) := by
  rintro ds q ⟨h, ns, rfl, hh, hl, hq⟩
  simp [b_both_of, init]
  refine ⟨by omega, compL_map (fun d => match d with | .int i => .int (i % h) | d => d) _ _ _ (fun d hd Kt k => ?_) ?_⟩
  · obtain ⟨i, _, rfl⟩ := List.mem_map.mp hd
    simp; exact ⟨by omega, k⟩
  · simp
    refine ⟨by omega, compL_map (fun d => match d with | .int i => .int ((h - i) % h) | d => d) _ _ _ (fun d hd Kt k => ?_) ?_⟩
    · obtain ⟨i, _, rfl⟩ := List.mem_map.mp hd
      simp at k ⊢; exact ⟨by omega, k⟩
    · have e : (ns.map fun i => PyData.int (i % h)) ++ (ns.map fun i => PyData.int ((h - i) % h)) = ((ns.map fun i => i % h) ++ (ns.map fun i => (h - i) % h)).map PyData.int := by rw [List.map_append, List.map_map, List.map_map]; rfl
      simp [Function.comp_def]
      have e : (ns.map fun i => PyData.int (i % h)) ++ (ns.map fun i => PyData.int (-i % h)) = ((ns.map fun i => i % h) ++ (ns.map fun i => -i % h)).map PyData.int := by rw [List.map_append, List.map_map, List.map_map]; rfl
      refine ⟨by omega, (ns.map fun i => i % h) ++ (ns.map fun i => -i % h), by rw [e, intsD_map], by simp; omega, fun ms m1 m2 => hq ms ⟨m1, fun j => ?_⟩⟩
      rw [m2]
      simp only [List.mem_append, List.mem_map]
      have z : ∀ s : Int, (h - s) % h = -s % h := fun s => by simp
      constructor
      · rintro (⟨a, ha, rfl⟩ | ⟨a, ha, rfl⟩)
        · exact ⟨a, ha, .inl rfl⟩
        · exact ⟨a, ha, .inr (z a).symm⟩
      · rintro ⟨s, hs, rfl | rfl⟩
        · exact .inl ⟨s, hs, rfl⟩
        · exact .inr ⟨s, hs, (z s).symm⟩

def sp_both_table : FSpec := fun ds q => ∃ (h : Int) (ns : List Int), ds = [.int h, .tuple (ns.map .int)] ∧ (1 ≤ h ∧ h ≤ 400) ∧ ns.length ≤ 1000 ∧ Mem h ns ∧ ∀ ms t, Both h ns ms → IsTab h ms t → q (.im (.tuple (t.map oD)))
def b_both_table : WS := (wSeq (wExp (wCall sp_need_clock_set (wCons (wVar 0) (wCons (wVar 1) wNil))))
  (wRet (wUn opTuple (wCall sp_table_in (wCons (wVar 0) (wCons (wCall sp_both_of (wCons (wVar 0) (wCons (wVar 1) wNil))) wNil))))))
theorem len_both_table : ∀ ds q, sp_both_table ds q → (if false then 1 else 0) + ds.length = 2 := by
  rintro ds q ⟨h, ns, rfl, _⟩; rfl
theorem ok_both_table : ∀ ds q, sp_both_table ds q → b_both_table { nx := fun _ => q (.im .none), rt := q } (init ["hours", "one"] false ds) := by
  rintro ds q ⟨h, ns, rfl, hh, hl, m, hq⟩
  simp [b_both_table, init]
  refine u_need_clock_set hh hl m ?_
  refine ⟨h, ns, rfl, hh, hl, fun ms B => ?_⟩
  simp
  refine ⟨h, _, ms, rfl, rfl, by omega, fun t T => ?_⟩
  simp
  exact hq ms t B T
def sp_both_depth : FSpec := fun ds q => ∃ (h : Int) (ns : List Int), ds = [.int h, .tuple (ns.map .int)] ∧ (1 ≤ h ∧ h ≤ 400) ∧ ns.length ≤ 1000 ∧ Mem h ns ∧ ∀ ms o, Both h ns ms → DepOf h ms o → q (.im (oD o))
def b_both_depth : WS := (wSeq (wExp (wCall sp_need_clock_set (wCons (wVar 0) (wCons (wVar 1) wNil))))
  (wRet (wCall sp_depth_in (wCons (wCall sp_table_in (wCons (wVar 0) (wCons (wCall sp_both_of (wCons (wVar 0) (wCons (wVar 1) wNil))) wNil))) wNil))))
theorem len_both_depth : ∀ ds q, sp_both_depth ds q → (if false then 1 else 0) + ds.length = 2 := by
  rintro ds q ⟨h, ns, rfl, _⟩; rfl
theorem ok_both_depth : ∀ ds q, sp_both_depth ds q → b_both_depth { nx := fun _ => q (.im .none), rt := q } (init ["hours", "one"] false ds) := by
  rintro ds q ⟨h, ns, rfl, hh, hl, m, hq⟩
  simp [b_both_depth, init]
  refine u_need_clock_set hh hl m ?_
  refine ⟨h, ns, rfl, hh, hl, fun ms B => ?_⟩
  simp
  refine ⟨h, _, ms, rfl, rfl, by omega, fun t T => ?_⟩
  simp
  exact ⟨t, rfl, T.ne hh.1, fun o e => ⟨trivial, hq ms o B ⟨t, T, e⟩⟩⟩
end PL

set_option Elab.async false
set_option linter.all false
set_option maxRecDepth 100000
set_option maxHeartbeats 4000000
namespace PL
open PySem L2
def sp_need_depth : FSpec := fun ds q => ∃ k m : Int, ds = [.int k, .int m] ∧ (1 ≤ k ∧ k ≤ m) ∧ q (.im .none)
@[simp] theorem u_need_depth {a m : Int} {k : Res → Prop} : @appS sp_need_depth [.int a, .int m] ⟨k⟩ ↔ (1 ≤ a ∧ a ≤ m) ∧ k (.im .none) :=
  ⟨fun ⟨d, m, e, h⟩ => by cases e; exact h, fun g => ⟨a, m, rfl, g⟩⟩
def b_need_depth : WS := (wIfS (wNotT (wTr (wCall sp_is_whole (wCons (wVar 0) (wCons (wC (.int 1)) (wCons (wVar 1) wNil)))))) wNever wSkip)
theorem len_need_depth : ∀ ds q, sp_need_depth ds q → (if false then 1 else 0) + ds.length = 2 := by
  rintro ds q ⟨h, d, rfl, _⟩; rfl
theorem ok_need_depth : ∀ ds q, sp_need_depth ds q → b_need_depth { nx := fun _ => q (.im .none), rt := q } (init ["value", "most"] false ds) := by
  rintro ds q ⟨k, m, rfl, hk, hq⟩
  simp [b_need_depth, init, wholeB, hk]; exact hq
def sp_perfect_clock : FSpec := fun ds q => ∃ k : Int, ds = [.int k] ∧ (1 ≤ k ∧ k ≤ 13) ∧ q (.im (.tuple [.int (2 * k * k + 2 * k + 1), .tuple [.int k, .int (k + 1)]]))
@[simp] theorem u_perfect_clock {a : Int} {k : Res → Prop} : @appS sp_perfect_clock [.int a] ⟨k⟩ ↔ (1 ≤ a ∧ a ≤ 13) ∧ k (.im (.tuple [.int (2 * a * a + 2 * a + 1), .tuple [.int a, .int (a + 1)]])) :=
  ⟨fun ⟨d, e, h⟩ => by cases e; exact h, fun g => ⟨a, rfl, g⟩⟩
def b_perfect_clock : WS := (wSeq (wExp (wCall sp_need_depth (wCons (wVar 0) (wCons (wC (.int 13)) wNil))))
  (wRet (wTup (wCons (wBin opAdd (wBin opAdd (wBin opMul (wBin opMul (wC (.int 2)) (wVar 0)) (wVar 0)) (wBin opMul (wC (.int 2)) (wVar 0))) (wC (.int 1))) (wCons (wTup (wCons (wVar 0) (wCons (wBin opAdd (wVar 0) (wC (.int 1))) wNil))) wNil)))))
theorem len_perfect_clock : ∀ ds q, sp_perfect_clock ds q → (if false then 1 else 0) + ds.length = 1 := by
  rintro ds q ⟨h, rfl, _⟩; rfl
theorem ok_perfect_clock : ∀ ds q, sp_perfect_clock ds q → b_perfect_clock { nx := fun _ => q (.im .none), rt := q } (init ["many"] false ds) := by
  rintro ds q ⟨k, rfl, hk, hq⟩
  have s2 : Sm 2 := by unfold Sm; omega
  have sk : Sm k := by unfold Sm; omega
  simp [b_perfect_clock, init, s2, sk]
  exact ⟨hk, hq⟩
/-- a pair of steps with a depth of at most m -/
def Okp (h m : Int) (a b : Int) : Prop := ∃ k : Nat, DepOf h [a, b] (some k) ∧ (k : Int) ≤ m
def Nop (h m : Int) (a b : Int) : Prop := ∃ o, DepOf h [a, b] o ∧ ∀ k : Nat, o = some k → ¬ (k : Int) ≤ m
def IsPair (h m : Int) : Option (Int × Int) → Prop
  | none => ∀ a b, 0 ≤ a → a < b → b < h → Nop h m a b
  | some (a, b) => 0 ≤ a ∧ a < b ∧ b < h ∧ Okp h m a b
def prD : Option (Int × Int) → D
  | none => .none
  | some (a, b) => .tuple [.int a, .int b]
def sp_pair_in : FSpec := fun ds q => ∃ h m : Int, ds = [.int h, .int m] ∧ (1 ≤ h ∧ h ≤ 1000) ∧ ∀ r, IsPair h m r → q (.im (prD r))
def b_pair_in : WS := (wSeq (wFor (wRng1 (wVar 0)) (gN 2) (wFor (wRng2 (wBin opAdd (wVar 2) (wC (.int 1))) (wVar 0)) (gN 3) (wSeq (wSet 4 false (wCall sp_depth_in (wCons (wCall sp_table_in (wCons (wVar 0) (wCons (wTup (wCons (wVar 2) (wCons (wVar 3) wNil))) wNil))) wNil)))
  (wIfS (wAndT (wT (wBin opNotN (wVar 4) (wC .none))) (wT (wBin opLe (wVar 4) (wVar 1)))) (wRet (wTup (wCons (wVar 2) (wCons (wVar 3) wNil)))) wSkip))))
  (wRet (wC .none)))
theorem len_pair_in : ∀ ds q, sp_pair_in ds q → (if false then 1 else 0) + ds.length = 2 := by
  rintro ds q ⟨h, m, rfl, _⟩; rfl
theorem ok_pair_in : ∀ ds q, sp_pair_in ds q → b_pair_in { nx := fun _ => q (.im .none), rt := q } (init ["hours", "many", "one", "other", "depth"] false ds) := by
  rintro ds q ⟨h, m, rfl, hh, hq⟩
  simp [b_pair_in, init]
  refine ⟨by omega, by omega, ?_⟩
  refine forL_ind (fun rest ρ => ∃ (lo : Int) (n : Nat) (x2 x3 x4 : Option SV), rest = rangeD lo n ∧ 0 ≤ lo ∧ lo + n = h ∧ (∀ a b, 0 ≤ a → a < lo → a < b → b < h → Nop h m a b) ∧
    ρ = [some (.val (.int h)), some (.val (.int m)), x2, x3, x4]) ?_ ?_ _ _ ⟨0, h.toNat, none, none, none, rfl, by omega, by omega, fun a b _ _ => by omega, rfl⟩
  · rintro e es ρ ⟨lo, n, x2, x3, x4, e2, h0, e3, hb, rfl⟩ ih
    cases n with
    | zero => simp [rangeD] at e2
    | succ n =>
      rw [rangeD_succ] at e2
      cases e2
      simp
      refine ⟨⟨by omega, by omega, by omega, by omega⟩, ?_⟩
      refine forL_ind (fun rest ρ => ∃ (l2 : Int) (n2 : Nat) (x3 x4 : Option SV), rest = rangeD l2 n2 ∧ lo < l2 ∧ l2 + n2 = h ∧ (∀ b, lo < b → b < l2 → Nop h m lo b) ∧
        ρ = [some (.val (.int h)), some (.val (.int m)), some (.val (.int lo)), x3, x4]) ?_ ?_ _ _ ⟨lo + 1, (h - (lo + 1)).toNat, x3, x4, rfl, by omega, by omega, fun b _ _ => by omega, rfl⟩
      · rintro e es ρ ⟨l2, n2, x3, x4, e2, h3, e4, hb2, rfl⟩ ih2
        cases n2 with
        | zero => simp [rangeD] at e2
        | succ n2 =>
          rw [rangeD_succ] at e2
          cases e2
          simp
          refine ⟨h, _, [lo, l2], rfl, rfl, hh, fun t T => ?_⟩
          refine ⟨trivial, t, rfl, T.ne hh.1, fun o e => ?_⟩
          have dep : DepOf h [lo, l2] o := ⟨t, T, e⟩
          cases o with
          | none =>
            simp [oD]
            exact ih2 _ ⟨l2 + 1, n2, _, _, rfl, by omega, by omega, fun b h4 h5 => by
              by_cases c : b = l2
              · subst c; exact ⟨none, dep, fun k hk => by cases hk⟩
              · exact hb2 b h4 (by omega), rfl⟩
          | some k =>
            simp [oD, isN]
            split
            · rename_i c
              exact hq (some (lo, l2)) ⟨h0, h3, by omega, k, dep, c⟩
            · rename_i c
              exact ih2 _ ⟨l2 + 1, n2, _, _, rfl, by omega, by omega, fun b h4 h5 => by
                by_cases c2 : b = l2
                · subst c2; exact ⟨some k, dep, fun k' hk => by cases hk; exact c⟩
                · exact hb2 b h4 (by omega), rfl⟩
      · rintro ρ ⟨l2, n2, x3, x4, e2, h3, e4, hb2, rfl⟩
        cases n2 with
        | succ n2 => rw [rangeD_succ] at e2; cases e2
        | zero =>
          refine ih _ ⟨lo + 1, n, _, x3, x4, rfl, by omega, by omega, fun a b h5 h6 h7 h8 => ?_, rfl⟩
          by_cases c : a = lo
          · subst c; exact hb2 b h7 (by omega)
          · exact hb a b h5 (by omega) h7 h8
  · rintro ρ ⟨lo, n, x2, x3, x4, e2, h0, e3, hb, rfl⟩
    cases n with
    | succ n => rw [rangeD_succ] at e2; cases e2
    | zero =>
      simp
      exact hq none fun a b h1 h2 h3 => hb a b h1 (by omega) h2 h3
def sp_two_steps : FSpec := fun ds q => ∃ h m : Int, ds = [.int h, .int m] ∧ (1 ≤ h ∧ h ≤ 60) ∧ (1 ≤ m ∧ m ≤ h) ∧ ∀ r, IsPair h m r → q (.im (prD r))
def b_two_steps : WS := (wSeq (wExp (wCall sp_need_clock (wCons (wVar 0) wNil)))
  (wSeq (wIfS (wT (wBin opGt (wVar 0) (wC (.int 60)))) wNever wSkip)
  (wSeq (wExp (wCall sp_need_depth (wCons (wVar 1) (wCons (wVar 0) wNil))))
  (wRet (wCall sp_pair_in (wCons (wVar 0) (wCons (wVar 1) wNil)))))))
theorem len_two_steps : ∀ ds q, sp_two_steps ds q → (if false then 1 else 0) + ds.length = 2 := by
  rintro ds q ⟨h, m, rfl, _⟩; rfl
theorem ok_two_steps : ∀ ds q, sp_two_steps ds q → b_two_steps { nx := fun _ => q (.im .none), rt := q } (init ["hours", "many"] false ds) := by
  rintro ds q ⟨h, m, rfl, hh, hm, hq⟩
  have c : ¬ (60 : Int) < h := by omega
  simp [b_two_steps, init, c]
  refine ⟨by omega, hm, h, m, rfl, by omega, fun r hr => ?_⟩
  simp
  exact hq r hr
/-- the greatest clock with a pair -/
def Grt (m g : Int) : Prop := 1 ≤ g ∧ g ≤ (m + 1) * (m + 2) / 2 ∧ (∃ r, IsPair g m (some r)) ∧ ∀ h, g < h → h ≤ (m + 1) * (m + 2) / 2 → IsPair h m none
def sp_greatest_in_depth : FSpec := fun ds q => ∃ m : Int, ds = [.int m] ∧ (1 ≤ m ∧ m ≤ 8) ∧ (∃ g, Grt m g) ∧ ∀ g, Grt m g → q (.im (.int g))
def b_greatest_in_depth : WS := (wSeq (wSet 1 false (wBin opDiv (wBin opMul (wBin opAdd (wVar 0) (wC (.int 1))) (wBin opAdd (wVar 0) (wC (.int 2)))) (wC (.int 2))))
  (wSeq (wWhile (wT (wBin opIsN (wCall sp_pair_in (wCons (wVar 1) (wCons (wVar 0) wNil))) (wC .none))) (wSet 1 false (wBin opSub (wVar 1) (wC (.int 1)))))
  (wRet (wVar 1))))
theorem len_greatest_in_depth : ∀ ds q, sp_greatest_in_depth ds q → (if false then 1 else 0) + ds.length = 1 := by
  rintro ds q ⟨m, rfl, _⟩; rfl
theorem isN_prD (r : Option (Int × Int)) : isN (prD r) = r.isNone := by
  cases r with
  | none => rfl
  | some p => rfl
theorem Nop.not {h m a b : Int} (x : Nop h m a b) (y : Okp h m a b) : False := by
  obtain ⟨o, d, n⟩ := x
  obtain ⟨k, d2, l⟩ := y
  have := d.uniq d2
  exact n k this l
theorem ok_greatest_in_depth : ∀ ds q, sp_greatest_in_depth ds q → b_greatest_in_depth { nx := fun _ => q (.im .none), rt := q } (init ["many", "hours"] false ds) := by
  rintro ds q ⟨m, rfl, hm, ⟨g, G⟩, hq⟩
  have p2 : (2 : Int) < 2 ^ 8000 := lt8000 (by omega)
  have sm1 : Sm (m + 1) := by unfold Sm; omega
  have bd : (m + 1) * (m + 2) / 2 ≤ 1000 := by
    have e : m = 1 ∨ m = 2 ∨ m = 3 ∨ m = 4 ∨ m = 5 ∨ m = 6 ∨ m = 7 ∨ m = 8 := by omega
    rcases e with rfl | rfl | rfl | rfl | rfl | rfl | rfl | rfl <;> decide
  simp [b_greatest_in_depth, init, p2, sm1]
  refine ⟨fun n ρ => ∃ h : Int, n = h.toNat ∧ g ≤ h ∧ h ≤ (m + 1) * (m + 2) / 2 ∧ (∀ h', h < h' → h' ≤ (m + 1) * (m + 2) / 2 → IsPair h' m none) ∧ ρ = [some (.val (.int m)), some (.val (.int h))], ⟨_, _, rfl, G.2.1, Int.le_refl _, fun h' h1 h2 => by omega, rfl⟩, ?_⟩
  rintro n ρ ⟨h, rfl, h1, h2, h3, rfl⟩
  have g1 := G.1
  simp
  refine ⟨h, m, rfl, by omega, fun r hr => ?_⟩
  simp [isN_prD]
  cases r with
  | none =>
    simp
    have hg : g ≤ h - 1 := by
      by_cases c : h = g
      · subst c
        obtain ⟨⟨a, b⟩, x1, x2, x3, x4⟩ := G.2.2.1
        exact ((hr a b x1 x2 x3).not x4).elim
      · omega
    refine ⟨_, ?_, h - 1, rfl, hg, by omega, fun h' h4 h5 => ?_, rfl⟩
    · omega
    · by_cases c : h' = h
      · subst c; exact hr
      · exact h3 h' (by omega) h5
  | some r =>
    simp
    exact hq h ⟨by omega, h2, ⟨r, hr⟩, h3⟩
def sp_greatest_clock : FSpec := fun ds q => ∃ m : Int, ds = [.int m] ∧ (1 ≤ m ∧ m ≤ 8) ∧ (∃ g, Grt m g) ∧ ∀ g, Grt m g → q (.im (.int g))
def b_greatest_clock : WS := (wSeq (wExp (wCall sp_need_depth (wCons (wVar 0) (wCons (wC (.int 8)) wNil))))
  (wRet (wCall sp_greatest_in_depth (wCons (wVar 0) wNil))))
theorem len_greatest_clock : ∀ ds q, sp_greatest_clock ds q → (if false then 1 else 0) + ds.length = 1 := by
  rintro ds q ⟨m, rfl, _⟩; rfl
theorem ok_greatest_clock : ∀ ds q, sp_greatest_clock ds q → b_greatest_clock { nx := fun _ => q (.im .none), rt := q } (init ["many"] false ds) := by
  rintro ds q ⟨m, rfl, hm, G, hq⟩
  simp [b_greatest_clock, init]
  refine ⟨hm, m, rfl, hm, G, fun g Gg => ?_⟩
  simp
  exact hq g Gg
end PL

set_option Elab.async false
set_option linter.all false
set_option maxRecDepth 100000
set_option maxHeartbeats 4000000
namespace PL
open PySem L2
/-! ### hours as the bits of a number -/
def rotM (h a M : Nat) : Nat := ((M <<< a) ||| (M >>> (h - a))) % 2 ^ h
def stM (h : Nat) (ns : List Nat) (M : Nat) : Nat := ns.foldl (fun acc s => acc ||| rotM h s M) M
def mkM (h : Nat) (ns : List Nat) : Nat → Nat
  | 0 => 1
  | k + 1 => stM h ns (mkM h ns k)
theorem bit_lt {h M y : Nat} (hM : M < 2 ^ h) (t : M.testBit y = true) : y < h := by
  apply Nat.lt_of_not_le
  intro c
  have := Nat.testBit_lt_two_pow (Nat.lt_of_lt_of_le hM (Nat.pow_le_pow_right (by omega) c))
  rw [this] at t; cases t
theorem rot_bit {h a M x : Nat} (hM : M < 2 ^ h) (ha : a < h) (hx : x < h) : (rotM h a M).testBit x = true ↔ ∃ y, M.testBit y = true ∧ x = (y + a) % h := by
  unfold rotM
  rw [Nat.testBit_mod_two_pow, Nat.testBit_or, Nat.testBit_shiftLeft, Nat.testBit_shiftRight]
  simp only [Bool.and_eq_true, Bool.or_eq_true, decide_eq_true_eq, hx, true_and]
  constructor
  · rintro (⟨h1, h2⟩ | h2)
    · refine ⟨x - a, h2, ?_⟩
      rw [Nat.mod_eq_of_lt (by omega)]; omega
    · have := bit_lt hM h2
      refine ⟨h - a + x, h2, ?_⟩
      have e : h - a + x + a = x + h := by omega
      rw [e, Nat.add_mod_right, Nat.mod_eq_of_lt hx]
  · rintro ⟨y, h2, e⟩
    have hy := bit_lt hM h2
    by_cases c : y + a < h
    · rw [Nat.mod_eq_of_lt c] at e
      left
      refine ⟨by omega, ?_⟩
      rw [show x - a = y by omega]; exact h2
    · right
      have e2 : (y + a) % h = y + a - h := by rw [Nat.mod_eq_sub_mod (by omega), Nat.mod_eq_of_lt (by omega)]
      rw [show h - a + x = y by omega]; exact h2
theorem rot_lt {h a M : Nat} : rotM h a M < 2 ^ h := Nat.mod_lt _ (Nat.two_pow_pos h)
theorem fold_bit {h M : Nat} {x : Nat} : ∀ (ns : List Nat) (acc : Nat), (ns.foldl (fun acc s => acc ||| rotM h s M) acc).testBit x = true ↔ acc.testBit x = true ∨ ∃ s ∈ ns, (rotM h s M).testBit x = true
  | [], acc => by simp
  | s :: ns, acc => by
    rw [List.foldl_cons, fold_bit ns, Nat.testBit_or]
    simp only [Bool.or_eq_true, List.mem_cons, exists_eq_or_imp, or_assoc]
theorem fold_lt {h M : Nat} : ∀ (ns : List Nat) (acc : Nat), acc < 2 ^ h → ns.foldl (fun acc s => acc ||| rotM h s M) acc < 2 ^ h
  | [], acc, e => e
  | s :: ns, acc, e => by
    rw [List.foldl_cons]
    exact fold_lt ns _ (Nat.or_lt_two_pow e rot_lt)
theorem mk_lt {h : Nat} (hh : 1 ≤ h) {ns : List Nat} : ∀ k, mkM h ns k < 2 ^ h
  | 0 => by
    show 1 < 2 ^ h
    calc 1 < 2 ^ 1 := by decide
      _ ≤ 2 ^ h := Nat.pow_le_pow_right (by omega) hh
  | k + 1 => fold_lt ns _ (mk_lt hh k)
abbrev iN (ns : List Nat) : List Int := ns.map fun s : Nat => (s : Int)
theorem mk_bit {h : Nat} (hh : 1 ≤ h) {ns : List Nat} (hs : ∀ s ∈ ns, s < h) : ∀ (k x : Nat), x < h → ((mkM h ns k).testBit x = true ↔ ∃ j, j ≤ k ∧ Wk h (iN ns) j x)
  | 0, x, hx => by
    show (1 : Nat).testBit x = true ↔ _
    rw [Nat.testBit_one_eq_true_iff_self_eq_zero]
    constructor
    · rintro rfl; exact ⟨0, Nat.le_refl _, rfl⟩
    · rintro ⟨j, hj, w⟩
      have : j = 0 := by omega
      subst this
      simp only [Wk] at w
      omega
  | k + 1, x, hx => by
    show (stM h ns (mkM h ns k)).testBit x = true ↔ _
    unfold stM
    rw [fold_bit, mk_bit hh hs k x hx]
    have hM := mk_lt hh (ns := ns) k
    constructor
    · rintro (⟨j, hj, w⟩ | ⟨s, m, r⟩)
      · exact ⟨j, by omega, w⟩
      · obtain ⟨y, hy, e⟩ := (rot_bit hM (hs s m) hx).mp r
        obtain ⟨j, hj, w⟩ := (mk_bit hh hs k y (bit_lt hM hy)).mp hy
        refine ⟨j + 1, by omega, y, s, w, List.mem_map.mpr ⟨s, m, rfl⟩, ?_⟩
        rw [e, Int.natCast_emod, Int.natCast_add]
    · rintro ⟨j, hj, w⟩
      cases j with
      | zero => exact .inl ⟨0, by omega, w⟩
      | succ j =>
        obtain ⟨y, s, w1, m, e⟩ := w
        obtain ⟨s', m', rfl⟩ := List.mem_map.mp m
        have ry := w1.range (by omega)
        have ey : ((y.toNat : Nat) : Int) = y := by omega
        right
        refine ⟨s', m', (rot_bit hM (hs s' m') hx).mpr ⟨y.toNat, (mk_bit hh hs k _ (by omega)).mpr ⟨j, by omega, by rw [ey]; exact w1⟩, ?_⟩⟩
        have : ((((y.toNat + s') % h : Nat)) : Int) = (y + s') % h := by rw [Int.natCast_emod, Int.natCast_add, ey]
        omega
def fullB (h : Nat) (ns : List Nat) (k : Nat) : Bool := Nat.beq (mkM h ns k) (2 ^ h - 1)
theorem full_iff {h : Nat} (hh : 1 ≤ h) {ns : List Nat} (hs : ∀ s ∈ ns, s < h) {k : Nat} : fullB h ns k = true ↔ ∀ x, x < h → ∃ j, j ≤ k ∧ Wk h (iN ns) j x := by
  unfold fullB
  rw [Nat.beq_eq]
  constructor
  · intro e x hx
    refine (mk_bit hh hs k x hx).mp ?_
    rw [e, Nat.testBit_two_pow_sub_one]
    simpa using hx
  · intro a
    refine Nat.eq_of_testBit_eq fun x => ?_
    rw [Nat.testBit_two_pow_sub_one]
    by_cases c : x < h
    · rw [(mk_bit hh hs k x c).mpr (a x c)]; simp [c]
    · have : (mkM h ns k).testBit x = false := by
        cases q : (mkM h ns k).testBit x with
        | false => rfl
        | true => exact (c (bit_lt (mk_lt hh k) q)).elim
      rw [this]; simp [c]
/-! ### tables and depths there are -/
theorem tab_ex {h : Int} (hh : 1 ≤ h) (ns : List Int) : ∃ t, IsTab h ns t := by
  classical
  have ex : ∀ x : Int, ∃ o : Option Nat, (∀ k, o = some k → Ds h ns x k) ∧ (o = none → ∀ k, ¬ Wk h ns k x) := fun x => by
    by_cases c : ∃ k, Wk h ns k x
    · obtain ⟨k, w⟩ := c
      obtain ⟨j, _, d⟩ := Ds.of w
      exact ⟨some j, (fun k e => by cases e; exact d), (fun e => by cases e)⟩
    · exact ⟨none, (fun k e => by cases e), fun _ k w => c ⟨k, w⟩⟩
  refine ⟨(List.range h.toNat).map fun i : Nat => Classical.choose (ex (i : Int)), by simp; omega, fun i k q => ?_, fun i q => ?_⟩
  · rw [List.getElem?_map] at q
    by_cases c : i < h.toNat
    · rw [List.getElem?_range c] at q
      exact (Classical.choose_spec (ex i)).1 k (Option.some.inj q)
    · rw [List.getElem?_eq_none (by simpa using c)] at q; cases q
  · rw [List.getElem?_map] at q
    by_cases c : i < h.toNat
    · rw [List.getElem?_range c] at q
      exact (Classical.choose_spec (ex i)).2 (Option.some.inj q)
    · rw [List.getElem?_eq_none (by simpa using c)] at q; cases q
theorem max_ex : ∀ (ks : List Nat), ks ≠ [] → ∃ k, k ∈ ks ∧ ∀ j ∈ ks, j ≤ k
  | [], h => absurd rfl h
  | [x], _ => ⟨x, List.mem_cons_self, fun j hj => by rw [List.mem_singleton.mp hj]; exact Nat.le_refl _⟩
  | x :: y :: r, _ => by
    obtain ⟨k, h1, h2⟩ := max_ex (y :: r) (by simp)
    by_cases c : x ≤ k
    · refine ⟨k, List.mem_cons_of_mem _ h1, fun j hj => ?_⟩
      rcases List.mem_cons.mp hj with rfl | hj
      · exact c
      · exact h2 j hj
    · refine ⟨x, List.mem_cons_self, fun j hj => ?_⟩
      rcases List.mem_cons.mp hj with rfl | hj
      · exact Nat.le_refl _
      · have := h2 j hj; omega
theorem dep_ex {h : Int} (hh : 1 ≤ h) (ns : List Int) : ∃ o, DepOf h ns o := by
  obtain ⟨t, T⟩ := tab_ex hh ns
  by_cases c : none ∈ t
  · exact ⟨none, t, T, c⟩
  · obtain ⟨ks, rfl⟩ := all_some c
    have hn := T.ne hh
    obtain ⟨k, h1, h2⟩ := max_ex ks (by simpa using hn)
    refine ⟨some k, _, T, c, List.mem_map.mpr ⟨k, h1, rfl⟩, fun j hj => ?_⟩
    obtain ⟨j', hj', e⟩ := List.mem_map.mp hj
    cases e
    exact h2 j hj'
theorem dep_full {h : Nat} (hh : 1 ≤ h) {ns : List Nat} (hs : ∀ s ∈ ns, s < h) {k m : Nat} (d : DepOf h (iN ns) (some k)) (hk : k ≤ m) : fullB h ns m = true := by
  obtain ⟨t, T, d1, d2, d3⟩ := d
  rw [full_iff hh hs]
  intro x hx
  have hl := T.len
  have hx' : x < t.length := by omega
  have g : t[x]? = some t[x] := List.getElem?_eq_getElem hx'
  have mem : t[x] ∈ t := List.getElem_mem hx'
  cases e : t[x] with
  | none => rw [e] at mem; exact (d1 mem).elim
  | some j =>
    rw [e] at mem g
    exact ⟨j, Nat.le_trans (d3 j mem) hk, (T.yes x j g).1⟩
theorem full_dep {h : Nat} (hh : 1 ≤ h) {ns : List Nat} (hs : ∀ s ∈ ns, s < h) {m : Nat} {o : Option Nat} (d : DepOf h (iN ns) o) (f : fullB h ns m = true) : ∃ k, o = some k ∧ k ≤ m := by
  obtain ⟨t, T, d⟩ := d
  rw [full_iff hh hs] at f
  have hl := T.len
  have all : ∀ v ∈ t, ∃ k, v = some k ∧ k ≤ m := fun v hv => by
    obtain ⟨i, hi, rfl⟩ := List.getElem_of_mem hv
    have g : t[i]? = some t[i] := List.getElem?_eq_getElem hi
    obtain ⟨j, hj, w⟩ := f i (by omega)
    cases e : t[i] with
    | none => exact (T.no i (by rw [g, e]) j w).elim
    | some k =>
      refine ⟨k, rfl, ?_⟩
      have D := T.yes i k (by rw [g, e])
      exact Nat.le_trans (Nat.not_lt.mp fun c => D.2 j c w) hj
  cases o with
  | none =>
    obtain ⟨k, e, _⟩ := all none d
    cases e
  | some k =>
    obtain ⟨k', e, h'⟩ := all _ d.2.1
    cases e
    exact ⟨k, rfl, h'⟩
/-! ### all pairs -/
def noPB (h m : Nat) : Bool := (List.range h).all fun b => (List.range b).all fun a => !fullB h [a, b] m
def soPB (h m : Nat) : Bool := (List.range h).any fun b => (List.range b).any fun a => fullB h [a, b] m
theorem pair_lt {h a b : Nat} (h1 : a < b) (h2 : b < h) : ∀ s ∈ [a, b], s < h := fun s hs => by
  rcases List.mem_cons.mp hs with rfl | hs
  · omega
  · rw [List.mem_singleton.mp hs]; exact h2
theorem noP {h m : Nat} (hh : 1 ≤ h) (e : noPB h m = true) : IsPair h m none := by
  intro a b h1 h2 h3
  obtain ⟨o, d⟩ := dep_ex (h := (h : Int)) (by omega) [a, b]
  refine ⟨o, d, fun k hk hle => ?_⟩
  subst hk
  unfold noPB at e
  have e1 := List.all_eq_true.mp (List.all_eq_true.mp e b.toNat (List.mem_range.mpr (by omega))) a.toNat (List.mem_range.mpr (by omega))
  have l := pair_lt (h := h) (a := a.toNat) (b := b.toNat) (by omega) (by omega)
  have ea : iN [a.toNat, b.toNat] = [a, b] := by
    show [((a.toNat : Nat) : Int), ((b.toNat : Nat) : Int)] = [a, b]
    rw [Int.toNat_of_nonneg h1, Int.toNat_of_nonneg (by omega)]
  have := dep_full hh l (m := m) (k := k) (by rw [ea]; exact d) (by omega)
  rw [this] at e1
  cases e1
theorem IsPair.no_some {h m : Int} {a b : Int} (x : IsPair h m none) (y : IsPair h m (some (a, b))) : False := (x a b y.1 y.2.1 y.2.2.1).not y.2.2.2
theorem soP {h m : Nat} (hh : 1 ≤ h) (e : soPB h m = true) : ∃ r, IsPair h m (some r) := by
  unfold soPB at e
  obtain ⟨b, hb, e⟩ := List.any_eq_true.mp e
  obtain ⟨a, ha, e⟩ := List.any_eq_true.mp e
  have hb := List.mem_range.mp hb
  have ha := List.mem_range.mp ha
  obtain ⟨o, d⟩ := dep_ex (h := (h : Int)) (by omega) [(a : Int), (b : Int)]
  obtain ⟨k, rfl, hk⟩ := full_dep hh (pair_lt ha hb) (ns := [a, b]) d e
  exact ⟨(a, b), by omega, by omega, by omega, k, d, by omega⟩
end PL

set_option Elab.async false
set_option linter.all false
set_option maxRecDepth 100000
set_option maxHeartbeats 4000000
namespace PL
open PySem L2
/-! ### the depth as a function -/
open Classical in
noncomputable def dpt (h : Int) (ns : List Int) : Option Nat := if c : ∃ o, DepOf h ns o then choose c else none
theorem dpt_spec {h : Int} (hh : 1 ≤ h) (ns : List Int) : DepOf h ns (dpt h ns) := by
  have c := dep_ex hh ns
  unfold dpt
  rw [dif_pos c]
  exact Classical.choose_spec c
theorem dpt_of {h : Int} {ns : List Int} {o : Option Nat} (hh : 1 ≤ h) (d : DepOf h ns o) : dpt h ns = o := (dpt_spec hh ns).uniq d
theorem u__law_depth {h : Int} {d : D} {ns : List Int} {k : Res → Prop} (hh : 1 ≤ h ∧ h ≤ 1000) (e : seqD d = some (ns.map .int)) (hk : k (.im (oD (dpt h ns)))) : @appS sp__law_depth [.int h, d] ⟨k⟩ :=
  ⟨h, d, ns, rfl, e, hh, fun o x => by rw [← dpt_of hh.1 x]; exact hk⟩
theorem u_clock_depth {h : Int} {ns : List Int} {k : Res → Prop} (hh : 1 ≤ h ∧ h ≤ 400) (hl : ns.length ≤ 1000) (m : Mem h ns) (hk : k (.im (oD (dpt h ns)))) : @appS sp_clock_depth [.int h, .tuple (ns.map .int)] ⟨k⟩ :=
  ⟨h, ns, rfl, hh, hl, m, fun o x => by rw [← dpt_of hh.1 x]; exact hk⟩
theorem okp_iff {h m a b : Int} (hh : 1 ≤ h) : Okp h m a b ↔ ∃ k : Nat, dpt h [a, b] = some k ∧ (k : Int) ≤ m := by
  constructor
  · rintro ⟨k, d, l⟩
    exact ⟨k, dpt_of hh d, l⟩
  · rintro ⟨k, e, l⟩
    exact ⟨k, e ▸ dpt_spec hh [a, b], l⟩
theorem mem_pair {h a b : Int} (h0 : 0 ≤ a) (h1 : a < b) (h2 : b < h) : Mem h [a, b] := by
  refine ⟨fun n hn => ?_, by simp; exact h1⟩
  rcases List.mem_cons.mp hn with rfl | hn
  · omega
  · rw [List.mem_singleton.mp hn]; omega
@[simp] theorem eqv_bool (a b : Bool) : PyData.eqv (.bool a) (.bool b) = (a == b) := by simp [PyData.eqv]
def sp__law_two_right : FSpec := fun ds q => ∃ h m : Int, ds = [.int h, .int m] ∧ (1 ≤ h ∧ h ≤ 60) ∧ (1 ≤ m ∧ m ≤ h) ∧ q (.im (.bool true))
theorem u__law_two_right {h m : Int} {k : Res → Prop} (hh : 1 ≤ h ∧ h ≤ 60) (hm : 1 ≤ m ∧ m ≤ h) (hk : k (.im (.bool true))) : @appS sp__law_two_right [.int h, .int m] ⟨k⟩ := ⟨h, m, rfl, hh, hm, hk⟩
def b__law_two_right : WS := (wSeq (wSet 2 false (wLst wNil))
  (wSeq (wFor (wRng1 (wVar 0)) (gN 3) (wSet 2 false (wBin opAdd (wVar 2) (wComp [6] (wRng2 (wBin opAdd (wVar 3) (wC (.int 1))) (wVar 0)) (gN 6) wYes (wCall sp__law_depth (wCons (wVar 0) (wCons (wTup (wCons (wVar 3) (wCons (wVar 6) wNil))) wNil)))))))
  (wSeq (wSet 4 false (wComp [7] (wSeqI (wVar 2)) (gN 7) (wAndT (wT (wBin opNotN (wVar 7) (wC .none))) (wT (wBin opLe (wVar 7) (wVar 1)))) (wVar 7)))
  (wSeq (wSet 5 false (wCall sp_two_steps (wCons (wVar 0) (wCons (wVar 1) wNil))))
  (wSeq (wIfS (wT (wBin opNe (wBin opIsN (wVar 5) (wC .none)) (wBin opEq (wVar 4) (wLst wNil)))) (wRet (wC (.bool false))) wSkip)
  (wRet (wOr (wBin opIsN (wVar 5) (wC .none)) (wAnd (wBin opIsB (wCall sp_is_clock_set (wCons (wVar 0) (wCons (wVar 5) wNil))) (wC (.bool true))) (wAnd (wBin opEq (wUn opLen (wVar 5)) (wC (.int 2))) (wAnd (wBin opLe (wCall sp__law_depth (wCons (wVar 0) (wCons (wVar 5) wNil))) (wVar 1)) (wBin opLe (wCall sp_clock_depth (wCons (wVar 0) (wCons (wVar 5) wNil))) (wVar 1))))))))))))
theorem len__law_two_right : ∀ ds q, sp__law_two_right ds q → (if false then 1 else 0) + ds.length = 2 := by
  rintro ds q ⟨h, m, rfl, _⟩; rfl
def ableF (m : Int) (d : D) : Option D := match d with | .int k => if k ≤ m then some (.int k) else none | _ => none
theorem ok__law_two_right : ∀ ds q, sp__law_two_right ds q → b__law_two_right { nx := fun _ => q (.im .none), rt := q } (init ["hours", "size", "depths", "one", "able", "told", "other", "depth"] false ds) := by
  rintro ds q ⟨h, m, rfl, hh, hm, hq⟩
  simp [b__law_two_right, init]
  refine ⟨by omega, by omega, ?_⟩
  refine forL_ind (fun rest ρ => ∃ (lo : Int) (n : Nat) (es : List D) (x3 : Option SV), rest = rangeD lo n ∧ 0 ≤ lo ∧ lo + n = h ∧ (es.length : Int) ≤ 60 * lo ∧ (∀ d ∈ es, ∃ a b, 0 ≤ a ∧ a < b ∧ b < h ∧ d = oD (dpt h [a, b])) ∧
    (∀ a b, 0 ≤ a → a < lo → a < b → b < h → oD (dpt h [a, b]) ∈ es) ∧ ρ = [some (.val (.int h)), some (.val (.int m)), some (.val (.list es)), x3, none, none, none, none]) ?_ ?_ _ _ ⟨0, h.toNat, [], none, rfl, by omega, by omega, by simp, by simp, fun a b _ _ => by omega, rfl⟩
  · rintro e es ρ ⟨lo, n, ds, x3, e2, h0, e3, hl, ha, hb, rfl⟩ ih
    cases n with
    | zero => simp [rangeD] at e2
    | succ n =>
      rw [rangeD_succ] at e2
      cases e2
      simp
      refine ⟨⟨by omega, by omega, by omega, by omega⟩, by omega, ?_⟩
      refine compL_map (fun d => match d with | .int b => oD (dpt h [lo, b]) | d => d) _ _ _ (fun d hd Kt k => ?_) ?_
      · obtain ⟨i, hi, rfl⟩ := mem_rangeD hd
        simp
        refine u__law_depth (ns := [lo, lo + 1 + i]) (by omega) rfl ?_
        exact ⟨trivial, k⟩
      · have lr : (rangeD (lo + 1) (h - (lo + 1)).toNat).length = (h - (lo + 1)).toNat := by simp
        simp
        refine ⟨by omega, ih _ ⟨lo + 1, n, _, _, rfl, by omega, by omega, ?_, fun d hd => ?_, fun a b h4 h5 h6 h7 => ?_, rfl⟩⟩
        · simp; omega
        · rcases List.mem_append.mp hd with hd | hd
          · exact ha d hd
          · obtain ⟨d', hd', rfl⟩ := List.mem_map.mp hd
            obtain ⟨i, hi, rfl⟩ := mem_rangeD hd'
            exact ⟨lo, lo + 1 + i, h0, by omega, by omega, rfl⟩
        · by_cases c : a = lo
          · subst c
            refine List.mem_append_right _ (List.mem_map.mpr ⟨.int b, ?_, rfl⟩)
            unfold rangeD
            exact List.mem_map.mpr ⟨(b - (a + 1)).toNat, List.mem_range.mpr (by omega), by congr 1; omega⟩
          · exact List.mem_append_left _ (hb a b h4 (by omega) h6 h7)
  · rintro ρ ⟨lo, n, es, x3, e2, h0, e3, hl, ha, hb, rfl⟩
    cases n with
    | succ n => rw [rangeD_succ] at e2; cases e2
    | zero =>
      simp
      refine ⟨by omega, ?_⟩
      refine compL_det (ableF m) _ _ _ (fun d hd Kt Kf k => ?_) ?_
      · obtain ⟨a, b, _, _, _, rfl⟩ := ha d hd
        cases e : dpt h [a, b] with
        | none => rw [e] at k; simp [oD, ableF] at k ⊢; exact k
        | some j =>
          rw [e] at k
          simp [oD, isN, ableF] at k ⊢
          by_cases c : (j : Int) ≤ m
          · simp [c] at k ⊢; exact k
          · simp [c] at k ⊢; exact k
      · have okA : SeqAt.shaped (.list (List.filterMap (ableF m) es)) = true := by
          refine (okS_list (n := 0)).mpr ⟨Nat.le_trans (List.length_filterMap_le _ _) (by omega), fun d hd => ?_⟩ |>.okD
          obtain ⟨d', _, e⟩ := List.mem_filterMap.mp hd
          cases d' <;> simp [ableF] at e
          obtain ⟨_, rfl⟩ := e
          simp
        have emp : ∀ r, IsPair h m r → (List.filterMap (ableF m) es).isEmpty = r.isNone := fun r hr => by
          cases r with
          | none =>
            rw [Option.isNone_none, List.isEmpty_iff, List.filterMap_eq_nil_iff]
            intro d hd
            obtain ⟨a, b, h1, h2, h3, rfl⟩ := ha d hd
            cases e : dpt h [a, b] with
            | none => rfl
            | some j =>
              simp only [oD, ableF]
              rw [if_neg]
              exact fun c => (hr a b h1 h2 h3).not ((okp_iff hh.1).mpr ⟨j, e, c⟩)
          | some p =>
            obtain ⟨a, b⟩ := p
            obtain ⟨h1, h2, h3, h4⟩ := hr
            obtain ⟨k, e, hk⟩ := (okp_iff hh.1).mp h4
            have m1 := hb a b h1 (by omega) h2 h3
            rw [e] at m1
            have : PyData.int k ∈ List.filterMap (ableF m) es := List.mem_filterMap.mpr ⟨_, m1, by simp [oD, ableF, hk]⟩
            cases q : List.filterMap (ableF m) es with
            | nil => rw [q] at this; cases this
            | cons x y => rfl
        simp
        refine ⟨h, m, rfl, hh, hm, fun r hr => ?_⟩
        have er := emp r hr
        simp [isN_prD, okA, er]
        cases r with
        | none => simp; exact hq
        | some p =>
          obtain ⟨a, b⟩ := p
          obtain ⟨h1, h2, h3, h4⟩ := hr
          obtain ⟨k, e, hk⟩ := (okp_iff hh.1).mp h4
          have M := mem_pair h1 h2 h3
          have mb : membB (.tuple [.int a, .int b]) 0 (h - 1) = true := membB_of (ns := [a, b]) M.1 M.2
          simp [prD, mb]
          refine ⟨by omega, ?_⟩
          refine u__law_depth (ns := [a, b]) (by omega) rfl ?_
          simp [e, oD, hk]
          refine u_clock_depth (ns := [a, b]) (by omega) (by simp) M ?_
          simp [e, oD, hk]
          exact hq
end PL

set_option Elab.async false
set_option linter.all false
set_option maxRecDepth 100000
set_option maxHeartbeats 4000000
namespace PL
open PySem L2
/-! ### perfect clocks -/
def bitc (h : Nat) (ns : List Nat) (far i : Nat) : Bool := (mkM h ns far).testBit i && (match far with | 0 => true | f + 1 => !(mkM h ns f).testBit i)
theorem bitc_iff {h : Nat} (hh : 1 ≤ h) {ns : List Nat} (hs : ∀ s ∈ ns, s < h) {far i : Nat} (hi : i < h) : bitc h ns far i = true ↔ Ds h (iN ns) i far := by
  unfold bitc
  rw [Bool.and_eq_true, mk_bit hh hs far i hi]
  constructor
  · rintro ⟨⟨j, hj, w⟩, h2⟩
    obtain ⟨v, hv, d⟩ := Ds.of w
    have : v = far := by
      cases far with
      | zero => omega
      | succ f =>
        have h3 : ¬ (mkM h ns f).testBit i = true := by simpa using h2
        rw [mk_bit hh hs f i hi] at h3
        apply Nat.le_antisymm (by omega)
        apply Nat.lt_of_not_le
        exact fun c => h3 ⟨v, by omega, d.1⟩
    rw [← this]; exact d
  · intro d
    refine ⟨⟨far, Nat.le_refl _, d.1⟩, ?_⟩
    cases far with
    | zero => rfl
    | succ f =>
      have : ¬ (mkM h ns f).testBit i = true := by
        rw [mk_bit hh hs f i hi]
        rintro ⟨j, hj, w⟩
        exact d.2 j (by omega) w
      simpa using this
theorem tab_bit {h : Nat} (hh : 1 ≤ h) {ns : List Nat} (hs : ∀ s ∈ ns, s < h) {t : List (Option Nat)} (T : IsTab h (iN ns) t) {far i : Nat} (hi : i < h) : t[i]? = some (some far) ↔ bitc h ns far i = true := by
  rw [bitc_iff hh hs hi]
  constructor
  · exact fun q => T.yes i far q
  · intro d
    have hl := T.len
    have g : t[i]? = some t[i] := List.getElem?_eq_getElem (by omega)
    cases e : t[i] with
    | none => exact (T.no i (by rw [g, e]) far d.1).elim
    | some k => rw [g, e, (T.yes i k (by rw [g, e])).uniq d]
def cntN (h : Nat) (ns : List Nat) (far : Nat) : Nat := (List.range h).countP (bitc h ns far)
def farF (far : Int) (d : D) : Option D := match d with | .int i => if i = far then some (.int 1) else none | _ => none
theorem far_len (far : Nat) : ∀ t : List (Option Nat), (List.filterMap (farF far) (t.map oD)).length = t.countP fun v => decide (v = some far)
  | [] => rfl
  | none :: t => by
    rw [List.map_cons, List.filterMap_cons_none (by rfl), far_len far t, List.countP_cons_of_neg (by simp)]
  | some k :: t => by
    by_cases c : k = far
    · subst c
      rw [List.map_cons, List.filterMap_cons_some (b := .int 1) (by simp [oD, farF]), List.length_cons, far_len k t, List.countP_cons_of_pos (by simp)]
    · rw [List.map_cons, List.filterMap_cons_none (by simp [oD, farF]; omega), far_len far t, List.countP_cons_of_neg (by simpa using c)]
theorem count_range (p : Option Nat → Bool) (t : List (Option Nat)) : t.countP p = (List.range t.length).countP fun i => match t[i]? with | some v => p v | none => false := by
  have e : t = (List.range t.length).map fun i => (t[i]?).getD none := by
    apply List.ext_getElem?
    intro i
    rw [List.getElem?_map]
    by_cases c : i < t.length
    · rw [List.getElem?_range c, List.getElem?_eq_getElem c]; simp [List.getElem?_eq_getElem c]
    · rw [List.getElem?_eq_none (by omega), List.getElem?_eq_none (by simpa using c)]; rfl
  conv => lhs; rw [e]
  rw [List.countP_map]
  refine List.countP_congr fun i hi => ?_
  have c := List.mem_range.mp hi
  simp [List.getElem?_eq_getElem c]
theorem tab_cnt {h : Nat} (hh : 1 ≤ h) {ns : List Nat} (hs : ∀ s ∈ ns, s < h) {t : List (Option Nat)} (T : IsTab h (iN ns) t) (far : Nat) : (t.countP fun v => decide (v = some far)) = cntN h ns far := by
  have hl := T.len
  have hl' : t.length = h := by omega
  rw [count_range, hl']
  refine List.countP_congr fun i hi => ?_
  have c := List.mem_range.mp hi
  have tb := tab_bit hh hs T (far := far) c
  have g : t[i]? = some t[i] := List.getElem?_eq_getElem (by omega)
  rw [← tb, g]
  simp
def Hn (k : Nat) : Nat := 2 * k * k + 2 * k + 1
def Sn (k : Nat) : List Nat := [k, k + 1, Hn k - k, Hn k - k - 1]
def pcB (k : Nat) : Bool := fullB (Hn k) (Sn k) k && !fullB (Hn k) (Sn k) (k - 1) && Nat.beq (cntN (Hn k) (Sn k) 0) 1 && (List.range k).all fun i => Nat.beq (cntN (Hn k) (Sn k) (i + 1)) (4 * (i + 1))
theorem pc_all : ((List.range 13).all fun i => pcB (i + 1)) = true := by decide +kernel
end PL

set_option Elab.async false
set_option linter.all false
set_option maxRecDepth 100000
set_option maxHeartbeats 4000000
namespace PL
open PySem L2
theorem eqv_ni (i : Int) : PyData.eqv .none (.int i) = false := by simp [PyData.eqv]
theorem IsTab.okS {h : Int} {ns : List Int} {t : List (Option Nat)} (T : IsTab h ns t) (hh : h ≤ 1000) : okS 1 (.tuple (t.map oD)) := by
  have := T.len
  refine okS_tuple.mpr ⟨by simp; omega, fun d hd => ?_⟩
  obtain ⟨v, _, rfl⟩ := List.mem_map.mp hd
  cases v <;> simp [oD]
theorem Both.to {h : Int} {ns ms us : List Int} (B : Both h ns ms) (e : ∀ s, s ∈ us ↔ ∃ s' ∈ ns, s = s' ∨ s = h - s') : (∀ s, s ∈ ms → ∃ s', s' ∈ us ∧ s' % h = s % h) ∧ (∀ s, s ∈ us → ∃ s', s' ∈ ms ∧ s' % h = s % h) := by
  constructor
  · intro s hs
    obtain ⟨s', m, rfl | rfl⟩ := (B.2 s).mp hs
    · exact ⟨s', (e _).mpr ⟨s', m, .inl rfl⟩, (Int.emod_emod_of_dvd _ (Int.dvd_refl _)).symm⟩
    · exact ⟨h - s', (e _).mpr ⟨s', m, .inr rfl⟩, (Int.emod_emod_of_dvd _ (Int.dvd_refl _)).symm⟩
  · intro s hs
    obtain ⟨s', m, rfl | rfl⟩ := (e s).mp hs
    · exact ⟨s % h, (B.2 _).mpr ⟨s, m, .inl rfl⟩, Int.emod_emod_of_dvd _ (Int.dvd_refl _)⟩
    · exact ⟨(h - s') % h, (B.2 _).mpr ⟨s', m, .inr rfl⟩, Int.emod_emod_of_dvd _ (Int.dvd_refl _)⟩
def sp__law_perfect_right : FSpec := fun ds q => ∃ k : Int, ds = [.int k] ∧ (1 ≤ k ∧ k ≤ 13) ∧ q (.im (.bool true))
theorem u__law_perfect_right {m : Int} {k : Res → Prop} (hm : 1 ≤ m ∧ m ≤ 13) (hk : k (.im (.bool true))) : @appS sp__law_perfect_right [.int m] ⟨k⟩ := ⟨m, rfl, hm, hk⟩
def b__law_perfect_right : WS := (wSeq (wAsg (wCall sp_perfect_clock (wCons (wVar 0) wNil)) (gT 2 (gsC (gN 1) (gsC (gN 2) gs0))))
  (wSeq (wIfS (wOrT (wT (wBin opNe (wVar 1) (wBin opAdd (wBin opAdd (wBin opMul (wBin opMul (wC (.int 2)) (wVar 0)) (wVar 0)) (wBin opMul (wC (.int 2)) (wVar 0))) (wC (.int 1))))) (wT (wBin opNe (wVar 2) (wTup (wCons (wVar 0) (wCons (wBin opAdd (wVar 0) (wC (.int 1))) wNil)))))) (wRet (wC (.bool false))) wSkip)
  (wSeq (wSet 3 false (wCall sp_both_table (wCons (wVar 1) (wCons (wVar 2) wNil))))
  (wSeq (wSet 4 false (wComp [6] (wRng1 (wBin opAdd (wVar 0) (wC (.int 1)))) (gN 6) wYes (wUn opLen (wComp [5] (wSeqI (wVar 3)) (gN 5) (wT (wBin opEq (wVar 5) (wVar 6))) (wC (.int 1))))))
  (wSeq (wIfS (wOrT (wT (wBin opNe (wVar 4) (wBin opAdd (wLst (wCons (wC (.int 1)) wNil)) (wComp [6] (wRng2 (wC (.int 1)) (wBin opAdd (wVar 0) (wC (.int 1)))) (gN 6) wYes (wBin opMul (wC (.int 4)) (wVar 6)))))) (wNotT (wTr (wCall sp__law_like (wCons (wVar 3) (wCons (wUn opTuple (wCall sp__law_dials (wCons (wVar 1) (wCons (wLst (wCons (wVar 0) (wCons (wBin opAdd (wVar 0) (wC (.int 1))) (wCons (wBin opSub (wVar 1) (wVar 0)) (wCons (wBin opSub (wBin opSub (wVar 1) (wVar 0)) (wC (.int 1))) wNil))))) wNil)))) wNil)))))) (wRet (wC (.bool false))) wSkip)
  (wRet (wBin opEq (wCall sp_both_depth (wCons (wVar 1) (wCons (wVar 2) wNil))) (wVar 0))))))))
theorem len__law_perfect_right : ∀ ds q, sp__law_perfect_right ds q → (if false then 1 else 0) + ds.length = 1 := by
  rintro ds q ⟨m, rfl, _⟩; rfl
theorem ok__law_perfect_right : ∀ ds q, sp__law_perfect_right ds q → b__law_perfect_right { nx := fun _ => q (.im .none), rt := q } (init ["size", "hours", "steps", "table", "counts", "depth", "far"] false ds) := by
  rintro ds q ⟨k0, rfl, hk0, hq⟩
  obtain ⟨k, rfl⟩ : ∃ k : Nat, k0 = k := ⟨k0.toNat, by omega⟩
  have hk : 1 ≤ k ∧ k ≤ 13 := by omega
  have pc : pcB k = true := by
    have := List.all_eq_true.mp pc_all (k - 1) (List.mem_range.mpr (by omega))
    rw [show k - 1 + 1 = k by omega] at this
    exact this
  have eH : (2 * (k : Int) * k + 2 * k + 1) = (Hn k : Nat) := by unfold Hn; push_cast; rfl
  have kk : k * k ≤ 169 := Nat.mul_le_mul hk.2 hk.2
  have bH : Hn k ≤ 365 ∧ 2 * k + 2 ≤ Hn k + 1 := by
    unfold Hn
    have : 2 * k * k = 2 * (k * k) := Nat.mul_assoc _ _ _
    have : k ≤ k * k := Nat.le_mul_of_pos_left k (by omega)
    omega
  unfold pcB at pc
  simp only [Bool.and_eq_true, Bool.not_eq_true', Nat.beq_eq, List.all_eq_true, List.mem_range] at pc
  obtain ⟨⟨⟨p1, p2⟩, p3⟩, p4⟩ := pc
  have s2 : Sm 2 := by unfold Sm; omega
  have s4 : Sm 4 := by unfold Sm; omega
  have sk : Sm k := by unfold Sm; omega
  have M : Mem (Hn k) [(k : Int), k + 1] := mem_pair (by omega) (by omega) (by omega)
  have hs : ∀ s ∈ Sn k, s < Hn k := by
    intro s hs
    simp only [Sn, List.mem_cons, List.not_mem_nil, or_false] at hs
    omega
  have eS : iN (Sn k) = [(k : Int), k + 1, Hn k - k, Hn k - k - 1] := by
    simp only [iN, Sn, List.map_cons, List.map_nil]
    rw [show ((Hn k - k : Nat) : Int) = Hn k - k by omega, show ((Hn k - k - 1 : Nat) : Int) = Hn k - k - 1 by omega]
    rfl
  have eM : ∀ s, s ∈ iN (Sn k) ↔ ∃ s' ∈ [(k : Int), k + 1], s = s' ∨ s = Hn k - s' := by
    intro s
    rw [eS]
    simp only [List.mem_cons, List.not_mem_nil, or_false, exists_eq_or_imp, exists_eq_left]
    constructor <;> intro h <;> omega
  have tw : PyData.eqv (.tuple [.int k, .int (k + 1)]) (.tuple [.int k, .int (k + 1)]) = true := eqv_self _ (by simp [PyData.canLay0, PyData.canLayAll0])
  have okt : SeqAt.shaped (.tuple [.int k, .int (k + 1)]) = true := (okS_intsT [(k : Int), k + 1] (by simp)).okD
  simp [b__law_perfect_right, init, s2, sk, tw, okt]
  rw [eH]
  refine ⟨by omega, ?_⟩
  refine ⟨(Hn k : Int), [(k : Int), k + 1], rfl, by omega, by simp, M, fun ms t B T => ?_⟩
  have T' : IsTab (Hn k) (iN (Sn k)) t := T.congr (B.to eM).1 (B.to eM).2
  have hl := T.len
  simp
  refine ⟨by omega, by omega, by omega, ?_⟩
  refine compL_map (fun d => match d with | .int i => .int (List.filterMap (farF i) (t.map oD)).length | d => d) _ _ _ (fun d hd Kt kt => ?_) ?_
  · obtain ⟨i, hi, rfl⟩ := mem_rangeD hd
    simp
    refine ⟨by omega, compL_det (farF i) _ _ _ (fun d hd Kt Kf k2 => ?_) ?_⟩
    · obtain ⟨v, _, rfl⟩ := List.mem_map.mp hd
      cases v with
      | none => simp [oD, farF, eqv_ni] at k2 ⊢; exact k2
      | some j =>
        by_cases c : j = i
        · simp [oD, farF, c] at k2 ⊢; exact k2
        · have c' : ¬ (j : Int) = i := by omega
          simp [oD, farF, c'] at k2 ⊢; exact k2
    · simp at kt ⊢; exact kt
  · have len_far : ∀ far : Nat, (List.filterMap (farF far) (t.map oD)).length = cntN (Hn k) (Sn k) far := fun far => by rw [far_len, tab_cnt (by omega) hs T']
    let cs : List Int := 1 :: (List.range k).map fun i : Nat => 4 * ((i : Int) + 1)
    have e1 : rangeD 1 k = ((List.range k).map fun i : Nat => (i : Int) + 1).map PyData.int := by
      rw [rangeD_ints]
      congr 1
      exact List.map_congr_left fun i _ => by omega
    have ec : [] ++ List.map (fun d => match d with
          | PyData.int i => PyData.int ↑(List.filterMap (farF i) (List.map oD t)).length
          | d => d) (rangeD 0 (k + 1)) = cs.map .int := by
      rw [List.nil_append, rangeD_succ, List.map_cons, Int.zero_add, e1, List.map_map, List.map_map]
      have h0 := len_far 0
      rw [p3] at h0
      simp only [Int.natCast_zero] at h0
      simp only [cs, List.map_cons, List.map_map, h0]
      refine congrArg (PyData.int 1 :: ·) (List.map_congr_left fun i hi => ?_)
      have h1 := len_far (i + 1)
      rw [p4 i (List.mem_range.mp hi)] at h1
      simp only [Function.comp, Int.natCast_add, Int.natCast_one] at h1 ⊢
      rw [h1]
      congr 1
    have oc : okS 1 (.list (cs.map .int)) := okS_ints cs (by simp [cs]; omega)
    have oc2 := oc.okD
    have ev := eqv_self _ oc.ok.1
    rw [ec]
    dsimp only
    refine ⟨⟨by omega, by omega⟩, by omega, ?_⟩
    refine compL_map (fun d => match d with | .int i => .int (4 * i) | d => d) _ _ _ (fun d hd Kt kt => ?_) ?_
    · obtain ⟨i, hi, rfl⟩ := mem_rangeD hd
      simp [s4]; exact kt
    · have e2 : [] ++ List.map (fun d => match d with | PyData.int i => PyData.int (4 * i) | d => d) (rangeD 1 k) = ((List.range k).map fun i : Nat => 4 * ((i : Int) + 1)).map .int := by
        rw [List.nil_append, e1, List.map_map, List.map_map, List.map_map]; rfl
      have e3 : PyData.int 1 :: ((List.range k).map fun i : Nat => 4 * ((i : Int) + 1)).map .int = cs.map .int := rfl
      rw [e2]
      simp only [u_addL, List.cons_append, List.nil_append, e3, d_fr, d_im]
      simp [oc2, ev, -List.map_map]
      refine ⟨by omega, (Hn k : Int), _, [(k : Int), k + 1, Hn k - k, Hn k - k - 1], rfl, rfl, by omega, fun t2 T2 => ?_⟩
      rw [← eS] at T2
      have et := T2.uniq T'
      subst et
      simp
      refine u__law_like rfl (T.okS (by omega)).up.up.up.up.up.up ?_
      refine ⟨true, rfl, ?_⟩
      simp
      refine ⟨(Hn k : Int), [(k : Int), k + 1], rfl, by omega, by simp, M, fun ms2 o B2 d => ?_⟩
      obtain ⟨t3, T3, d3⟩ := d
      have d4 : DepOf (Hn k) (iN (Sn k)) o := ⟨t3, T3.congr (B2.to eM).1 (B2.to eM).2, d3⟩
      obtain ⟨j, rfl, hj⟩ := full_dep (by omega) hs d4 p1
      have : j = k := by
        apply Nat.le_antisymm hj
        apply Nat.le_of_not_lt
        intro c
        have := dep_full (by omega) hs d4 (m := k - 1) (by omega)
        rw [p2] at this; cases this
      subst this
      simp [oD]
      exact hq
end PL

set_option Elab.async false
set_option linter.all false
set_option maxRecDepth 100000
set_option maxHeartbeats 4000000
namespace PL
open PySem L2
/-! ### the greatest clocks -/
def gOf (m : Nat) : Nat := [0, 3, 5, 8, 11, 16, 21, 26, 33].getD m 0
def bOf (m : Nat) : Nat := (m + 1) * (m + 2) / 2
def grB (m : Nat) : Bool := soPB (gOf m) m && ((List.range (bOf m + 1)).all fun h => Nat.ble h (gOf m) || noPB h m) && noPB (gOf m) (m - 1)
theorem gr_all : ((List.range 8).all fun i => grB (i + 1)) = true := by decide +kernel
theorem gOf_pos {m : Nat} (h : 1 ≤ m ∧ m ≤ 8) : 1 ≤ gOf m ∧ gOf m ≤ bOf m ∧ bOf m ≤ 45 := by
  have e : m = 1 ∨ m = 2 ∨ m = 3 ∨ m = 4 ∨ m = 5 ∨ m = 6 ∨ m = 7 ∨ m = 8 := by omega
  rcases e with rfl | rfl | rfl | rfl | rfl | rfl | rfl | rfl <;> decide
structure Gr (m : Nat) : Prop where
  so : ∃ r, IsPair (gOf m) m (some r)
  no : ∀ h : Nat, gOf m < h → h ≤ bOf m → IsPair h m none
  le : IsPair (gOf m) ((m - 1 : Nat) : Int) none
theorem gr {m : Nat} (h : 1 ≤ m ∧ m ≤ 8) : Gr m := by
  have b := List.all_eq_true.mp gr_all (m - 1) (List.mem_range.mpr (by omega))
  rw [show m - 1 + 1 = m by omega] at b
  unfold grB at b
  simp only [Bool.and_eq_true] at b
  obtain ⟨⟨b1, b2⟩, b3⟩ := b
  have p := gOf_pos h
  refine ⟨soP p.1 b1, fun x h1 h2 => ?_, noP p.1 b3⟩
  have := List.all_eq_true.mp b2 x (List.mem_range.mpr (by omega))
  simp only [Bool.or_eq_true, Nat.ble_eq] at this
  rcases this with c | c
  · omega
  · exact noP (by omega) c
theorem bOf_int (m : Nat) : ((m : Int) + 1) * ((m : Int) + 2) / 2 = (bOf m : Nat) := by unfold bOf; push_cast; rfl
theorem grt_ex {m : Nat} (h : 1 ≤ m ∧ m ≤ 8) : Grt m (gOf m) := by
  have p := gOf_pos h
  have G := gr h
  refine ⟨by omega, by rw [bOf_int]; omega, G.so, fun x h1 h2 => ?_⟩
  rw [bOf_int] at h2
  obtain ⟨y, rfl⟩ : ∃ y : Nat, x = y := ⟨x.toNat, by omega⟩
  exact G.no y (by omega) (by omega)
theorem grt_eq {m : Nat} (h : 1 ≤ m ∧ m ≤ 8) {g : Int} (g1 : Grt m g) : g = gOf m := by
  have g2 := grt_ex h
  obtain ⟨⟨a, b⟩, x1⟩ := g1.2.2.1
  obtain ⟨⟨c, d⟩, x2⟩ := g2.2.2.1
  rcases Int.lt_trichotomy g (gOf m) with q | q | q
  · exact ((g1.2.2.2 _ q g2.2.1).no_some x2).elim
  · exact q
  · exact ((g2.2.2.2 _ q g1.2.1).no_some x1).elim
theorem u_greatest_clock {m : Nat} {k : Res → Prop} (h : 1 ≤ m ∧ m ≤ 8) (hk : k (.im (.int (gOf m)))) : @appS sp_greatest_clock [.int m] ⟨k⟩ :=
  ⟨m, rfl, by omega, ⟨_, grt_ex h⟩, fun g G => by rw [grt_eq h G]; exact hk⟩
theorem u_two_none {h m : Nat} {k : Res → Prop} (hh : 1 ≤ h ∧ h ≤ 60) (hm : 1 ≤ m ∧ m ≤ h) (e : IsPair h m none) (hk : k (.im .none)) : @appS sp_two_steps [.int h, .int m] ⟨k⟩ :=
  ⟨h, m, rfl, by omega, by omega, fun r hr => by
    cases r with
    | none => exact hk
    | some r => exact (e.no_some (show IsPair h m (some (r.1, r.2)) from hr)).elim⟩
theorem u_two_some {h m : Nat} {k : Res → Prop} (hh : 1 ≤ h ∧ h ≤ 60) (hm : 1 ≤ m ∧ m ≤ h) (e : ∃ r, IsPair h m (some r)) (hk : ∀ a b : Int, 0 ≤ a → a < b → b < h → Okp h m a b → k (.im (.tuple [.int a, .int b]))) : @appS sp_two_steps [.int h, .int m] ⟨k⟩ :=
  ⟨h, m, rfl, by omega, by omega, fun r hr => by
    cases r with
    | none => obtain ⟨⟨a, b⟩, x⟩ := e; exact (IsPair.no_some hr x).elim
    | some r => exact hk r.1 r.2 hr.1 hr.2.1 hr.2.2.1 hr.2.2.2⟩
/-- a pair of the least depth -/
theorem dpt_eq {h m : Nat} (hh : 1 ≤ h) (hm : 1 ≤ m) {a b : Int} (h0 : 0 ≤ a) (h1 : a < b) (h2 : b < h) (o : Okp h m a b) (n : IsPair h ((m - 1 : Nat) : Int) none) : dpt h [a, b] = some m := by
  obtain ⟨k, e, l⟩ := (okp_iff (by omega)).mp o
  have : ¬ (k : Int) ≤ ((m - 1 : Nat) : Int) := fun c => (n a b h0 h1 h2).not ((okp_iff (by omega)).mpr ⟨k, e, c⟩)
  rw [e]
  congr 1
  omega
theorem n83 : IsPair 9 3 none := noP (h := 9) (m := 3) (by decide) (by decide +kernel)
theorem s83 : ∃ r, IsPair 8 3 (some r) := soP (h := 8) (m := 3) (by decide) (by decide +kernel)
theorem n82 : IsPair 8 2 none := noP (h := 8) (m := 2) (by decide) (by decide +kernel)
theorem n11 : IsPair 1 1 none := noP (h := 1) (m := 1) (by decide) (by decide +kernel)
def b_law : WS := (wSeq (wIfS (wOrT (wNotT (wTr (wCall sp__law_like (wCons (wBin opAdd (wComp [5] (wSeqI (wTup (wCons (wC (.int 1)) (wCons (wC (.int 2)) (wCons (wC (.int 3)) (wCons (wC (.int 4)) wNil)))))) (gN 5) wYes (wCall sp_greatest_clock (wCons (wVar 5) wNil))) (wLst (wCons (wCall sp_perfect_clock (wCons (wC (.int 2)) wNil)) wNil))) (wCons (wLst (wCons (wC (.int 3)) (wCons (wC (.int 5)) (wCons (wC (.int 8)) (wCons (wC (.int 11)) (wCons (wTup (wCons (wC (.int 13)) (wCons (wTup (wCons (wC (.int 2)) (wCons (wC (.int 3)) wNil))) wNil))) wNil)))))) wNil))))) (wT (wBin opIsN (wCall sp_two_steps (wCons (wC (.int 8)) (wCons (wC (.int 3)) wNil))) (wC .none)))) (wRet (wC (.bool false))) wSkip)
  (wSeq (wSet 1 false (wLst (wCons (wCall sp_two_steps (wCons (wC (.int 9)) (wCons (wC (.int 3)) wNil))) (wCons (wCall sp_clock_depth (wCons (wC (.int 8)) (wCons (wCall sp_two_steps (wCons (wC (.int 8)) (wCons (wC (.int 3)) wNil))) wNil))) (wCons (wCall sp_greatest_clock (wCons (wC (.int 1)) wNil)) (wCons (wCall sp_greatest_clock (wCons (wC (.int 2)) wNil)) (wCons (wCall sp_greatest_clock (wCons (wC (.int 3)) wNil)) (wCons (wCall sp_greatest_clock (wCons (wC (.int 4)) wNil)) (wCons (wCall sp_perfect_clock (wCons (wC (.int 2)) wNil)) (wCons (wCall sp_two_steps (wCons (wC (.int 1)) (wCons (wC (.int 1)) wNil))) wNil))))))))))
  (wSeq (wIfS (wNotT (wTr (wCall sp__law_like (wCons (wVar 1) (wCons (wLst (wCons (wC .none) (wCons (wC (.int 3)) (wCons (wC (.int 3)) (wCons (wC (.int 5)) (wCons (wC (.int 8)) (wCons (wC (.int 11)) (wCons (wTup (wCons (wC (.int 13)) (wCons (wTup (wCons (wC (.int 2)) (wCons (wC (.int 3)) wNil))) wNil))) (wCons (wC .none) wNil))))))))) wNil))))) (wRet (wC (.bool false))) wSkip)
  (wNew 2 0 (wSeq (wFor (wSeqI (wTup (wCons (wC (.int 6)) (wCons (wC (.int 14)) (wCons (wC (.int 22)) wNil))))) (gN 3) (wSeq (wSet 4 false (wBin opAdd (wC (.int 1)) (wCallC 2 sp__law_roll (wCons (wVar 3) wNil))))
  (wIfS (wNotT (wTr (wCall sp__law_two_right (wCons (wVar 4) (wCons (wBin opAdd (wC (.int 1)) (wCallC 2 sp__law_roll (wCons (wBin opMin2 (wVar 4) (wC (.int 8))) wNil))) wNil))))) (wRet (wC (.bool false))) wSkip)))
  (wSeq (wIfS (wOrT (wNotT (wTr (wCall sp__law_perfect_right (wCons (wBin opAdd (wC (.int 1)) (wCallC 2 sp__law_roll (wCons (wC (.int 13)) wNil))) wNil)))) (wAndT (wT (wBin opEq (wCallC 2 sp__law_roll (wCons (wC (.int 6)) wNil)) (wC (.int 0)))) (wNotT (wTr (wCall sp__law_two_right (wCons (wBin opAdd (wC (.int 23)) (wCallC 2 sp__law_roll (wCons (wC (.int 14)) wNil))) (wCons (wBin opAdd (wC (.int 4)) (wCallC 2 sp__law_roll (wCons (wC (.int 9)) wNil))) wNil))))))) (wRet (wC (.bool false))) wSkip)
  (wSeq (wSet 5 false (wIf (wT (wBin opGt (wCallC 2 sp__law_roll (wCons (wC (.int 6)) wNil)) (wC (.int 0)))) (wBin opAdd (wC (.int 2)) (wCallC 2 sp__law_roll (wCons (wC (.int 4)) wNil))) (wBin opAdd (wC (.int 6)) (wCallC 2 sp__law_roll (wCons (wC (.int 3)) wNil)))))
  (wSeq (wSet 3 false (wCall sp_greatest_clock (wCons (wVar 5) wNil)))
  (wSeq (wIfS (wT (wBin opNe (wVar 3) (wBin opAdd (wBin opDiv (wBin opMul (wVar 5) (wBin opAdd (wVar 5) (wC (.int 4)))) (wC (.int 3))) (wC (.int 1))))) (wRet (wC (.bool false))) wSkip)
  (wSeq (wSet 6 false (wCall sp_two_steps (wCons (wVar 3) (wCons (wVar 5) wNil))))
  (wRet (wAnd (wBin opNotN (wVar 6) (wC .none)) (wAnd (wBin opEq (wCall sp__law_depth (wCons (wVar 3) (wCons (wVar 6) wNil))) (wVar 5)) (wBin opIsN (wCall sp_two_steps (wCons (wBin opAdd (wVar 3) (wC (.int 1))) (wCons (wVar 5) wNil))) (wC .none)))))))))))))))
end PL

set_option Elab.async false
set_option linter.all false
set_option maxRecDepth 100000
set_option maxHeartbeats 4000000
namespace PL
open PySem L2
theorem like_refl {n : Nat} {d d' : D} {k : Res → Prop} (e : d = d') (h : okS n d) (hn : n ≤ 7) (hk : k (.im (.bool true))) : @appS sp__law_like [d, d'] ⟨k⟩ := by
  have up : ∀ (j : Nat), okS (n + j) d := fun j => by
    induction j with
    | zero => exact h
    | succ j ih => exact ih.up
  have h7 := up (7 - n)
  rw [show n + (7 - n) = 7 by omega] at h7
  exact u__law_like e h7 hk
theorem u_roll {m : Int} {k : Res → Prop} (h0 : 0 < m) (h1 : m < 2 ^ 100) (hk : ∀ r : Int, 0 ≤ r → r < m → k (.im (.int r))) : @appS sp__law_roll [.int m] ⟨k⟩ := ⟨m, rfl, h0, h1, hk⟩
def plainS (o : Option SV) : Prop := match o with | none => True | some (.val _) => True | _ => False
theorem new_ok0 {i : Nat} {b : WS} {E : PEnds} {ns : List Int} {rest : Sl} (hl : ns.length ≤ 1000000) (hp : ∀ o ∈ rest, plainS o) (h : @stp ((none :: rest).set i (some .cup)) ⟨b E⟩) : @newX i 0 b (some (.scr ns) :: rest) ⟨E⟩ := by
  refine ⟨⟨ns, rfl, hl⟩, fun l d e => ?_, fun l ns' hne e => ?_, fun l e => ?_, h⟩
  · cases l with
    | zero => cases e
    | succ l => exact hp _ (List.mem_of_getElem? (by simpa using e))
  · cases l with
    | zero => exact hne rfl
    | succ l => exact hp _ (List.mem_of_getElem? (by simpa using e))
  · cases l with
    | zero => cases e
    | succ l => exact hp _ (List.mem_of_getElem? (by simpa using e))
theorem gOf_law {s : Nat} (h : 2 ≤ s ∧ s ≤ 8) : gOf s = s * (s + 4) / 3 + 1 ∧ s ≤ gOf s ∧ gOf s + 1 ≤ bOf s := by
  have e : s = 2 ∨ s = 3 ∨ s = 4 ∨ s = 5 ∨ s = 6 ∨ s = 7 ∨ s = 8 := by omega
  rcases e with rfl | rfl | rfl | rfl | rfl | rfl | rfl <;> decide
theorem ok_law : ∀ ns : List Int, ns.length ≤ 1000000 → b_law lawE (initS ["script", "told", "cup", "most", "hours", "size", "found"] ns) := by
  intro ns hl
  simp [b_law, initS]
  refine compL_map (fun d => match d with | .int i => .int (gOf i.toNat) | d => d) _ _ _ (fun d hd Kt kt => ?_) ?_
  · have : ∃ m : Nat, (1 ≤ m ∧ m ≤ 8) ∧ d = .int m := by
      simp only [List.mem_cons, List.not_mem_nil, or_false] at hd
      rcases hd with rfl | rfl | rfl | rfl
      · exact ⟨1, by decide, rfl⟩
      · exact ⟨2, by decide, rfl⟩
      · exact ⟨3, by decide, rfl⟩
      · exact ⟨4, by decide, rfl⟩
    obtain ⟨m, hm, rfl⟩ := this
    simp
    refine u_greatest_clock hm ?_
    simp at kt ⊢
    exact kt
  · simp
    refine like_refl (n := 3) (by rfl) (by simp) (by decide) ?_
    simp
    refine u_two_some (h := 8) (m := 3) (by decide) (by decide) s83 fun a b h0 h1 h2 o => ?_
    simp
    refine u_two_none (h := 9) (m := 3) (by decide) (by decide) n83 ?_
    simp
    refine u_two_some (h := 8) (m := 3) (by decide) (by decide) s83 fun a b h0 h1 h2 o => ?_
    simp
    refine u_clock_depth (ns := [a, b]) (by decide) (by simp) (mem_pair h0 h1 h2) ?_
    rw [show dpt 8 [a, b] = some 3 from dpt_eq (h := 8) (m := 3) (by decide) (by decide) h0 h1 h2 o n82]
    simp
    refine u_greatest_clock (m := 1) (by decide) ?_
    simp
    refine u_greatest_clock (m := 2) (by decide) ?_
    simp
    refine u_greatest_clock (m := 3) (by decide) ?_
    simp
    refine u_greatest_clock (m := 4) (by decide) ?_
    simp
    refine u_two_none (h := 1) (m := 1) (by decide) (by decide) n11 ?_
    simp
    refine like_refl (n := 3) (by rfl) (by simp [oD]) (by decide) ?_
    simp
    refine new_ok0 hl (by simp [plainS]) ?_
    simp
    refine forL_ind (fun rest ρ => ∃ (told : SV) (x3 x4 : Option SV), (∀ d ∈ rest, ∃ m : Int, d = .int m ∧ 1 ≤ m ∧ m ≤ 22) ∧ ρ = [none, some told, some .cup, x3, x4, none, none]) ?_ ?_ _ _ ⟨_, _, _, by simp, rfl⟩
    · rintro d ds ρ ⟨told, x3, x4, hd, rfl⟩ ih
      obtain ⟨m, rfl, hm⟩ := hd d List.mem_cons_self
      simp
      refine u_roll (by omega) (by omega) fun r h0 h1 => ?_
      simp
      refine u_roll (by split <;> omega) (by split <;> omega) fun r2 h2 h3 => ?_
      simp
      have b2 : r2 < 1 + r ∧ r2 < 8 := by split at h3 <;> omega
      refine u__law_two_right (by omega) (by omega) ?_
      simp
      exact ih _ ⟨told, _, _, fun d' hd' => hd d' (List.mem_cons_of_mem _ hd'), rfl⟩
    · rintro ρ ⟨told, x3, x4, -, rfl⟩
      simp
      refine u_roll (by omega) (by omega) fun r h0 h1 => ?_
      simp
      refine u__law_perfect_right (by omega) ?_
      simp
      refine u_roll (by omega) (by omega) fun r2 h2 h3 => ?_
      simp
      split
      · refine u_roll (by omega) (by omega) fun r3 h9 h10 => ?_
        simp
        refine u_roll (by omega) (by omega) fun r4 h11 h12 => ?_
        simp
        refine u__law_two_right (by omega) (by omega) ?_
        simp
        refine u_roll (by omega) (by omega) fun r5 h5 h6 => ?_
        simp
        split
        · refine u_roll (by omega) (by omega) fun r6 h7 h8 => ?_
          simp
          obtain ⟨s, es⟩ : ∃ s : Nat, (2 + r6 : Int) = s := ⟨(2 + r6).toNat, by omega⟩
          rw [es]
          have hs : 2 ≤ s ∧ s ≤ 8 := by omega
          have g := gOf_law hs
          have gp := gOf_pos (m := s) (by omega)
          have G := gr (m := s) (by omega)
          have s1 : Sm s := by unfold Sm; omega
          have p3 : (3 : Int) < 2 ^ 8000 := lt8000 (by omega)
          have eg : (s : Int) * ((s : Int) + 4) / 3 + 1 = gOf s := by rw [g.1]; push_cast; rfl
          refine u_greatest_clock (by omega) ?_
          simp [s1, p3, eg]
          refine u_two_some (h := gOf s) (m := s) (by omega) (by omega) G.so fun a b h0 h1 h2 o => ?_
          simp
          refine u__law_depth (ns := [a, b]) (by omega) rfl ?_
          rw [dpt_eq gp.1 (by omega) h0 h1 h2 o G.le]
          simp [oD]
          refine u_two_none (h := gOf s + 1) (m := s) (by omega) (by omega) (G.no _ (by omega) (by omega)) ?_
          simp [lawE]
        · refine u_roll (by omega) (by omega) fun r6 h7 h8 => ?_
          simp
          obtain ⟨s, es⟩ : ∃ s : Nat, (6 + r6 : Int) = s := ⟨(6 + r6).toNat, by omega⟩
          rw [es]
          have hs : 2 ≤ s ∧ s ≤ 8 := by omega
          have g := gOf_law hs
          have gp := gOf_pos (m := s) (by omega)
          have G := gr (m := s) (by omega)
          have s1 : Sm s := by unfold Sm; omega
          have p3 : (3 : Int) < 2 ^ 8000 := lt8000 (by omega)
          have eg : (s : Int) * ((s : Int) + 4) / 3 + 1 = gOf s := by rw [g.1]; push_cast; rfl
          refine u_greatest_clock (by omega) ?_
          simp [s1, p3, eg]
          refine u_two_some (h := gOf s) (m := s) (by omega) (by omega) G.so fun a b h0 h1 h2 o => ?_
          simp
          refine u__law_depth (ns := [a, b]) (by omega) rfl ?_
          rw [dpt_eq gp.1 (by omega) h0 h1 h2 o G.le]
          simp [oD]
          refine u_two_none (h := gOf s + 1) (m := s) (by omega) (by omega) (G.no _ (by omega) (by omega)) ?_
          simp [lawE]
      · refine u_roll (by omega) (by omega) fun r5 h5 h6 => ?_
        simp
        split
        · refine u_roll (by omega) (by omega) fun r6 h7 h8 => ?_
          simp
          obtain ⟨s, es⟩ : ∃ s : Nat, (2 + r6 : Int) = s := ⟨(2 + r6).toNat, by omega⟩
          rw [es]
          have hs : 2 ≤ s ∧ s ≤ 8 := by omega
          have g := gOf_law hs
          have gp := gOf_pos (m := s) (by omega)
          have G := gr (m := s) (by omega)
          have s1 : Sm s := by unfold Sm; omega
          have p3 : (3 : Int) < 2 ^ 8000 := lt8000 (by omega)
          have eg : (s : Int) * ((s : Int) + 4) / 3 + 1 = gOf s := by rw [g.1]; push_cast; rfl
          refine u_greatest_clock (by omega) ?_
          simp [s1, p3, eg]
          refine u_two_some (h := gOf s) (m := s) (by omega) (by omega) G.so fun a b h0 h1 h2 o => ?_
          simp
          refine u__law_depth (ns := [a, b]) (by omega) rfl ?_
          rw [dpt_eq gp.1 (by omega) h0 h1 h2 o G.le]
          simp [oD]
          refine u_two_none (h := gOf s + 1) (m := s) (by omega) (by omega) (G.no _ (by omega) (by omega)) ?_
          simp [lawE]
        · refine u_roll (by omega) (by omega) fun r6 h7 h8 => ?_
          simp
          obtain ⟨s, es⟩ : ∃ s : Nat, (6 + r6 : Int) = s := ⟨(6 + r6).toNat, by omega⟩
          rw [es]
          have hs : 2 ≤ s ∧ s ≤ 8 := by omega
          have g := gOf_law hs
          have gp := gOf_pos (m := s) (by omega)
          have G := gr (m := s) (by omega)
          have s1 : Sm s := by unfold Sm; omega
          have p3 : (3 : Int) < 2 ^ 8000 := lt8000 (by omega)
          have eg : (s : Int) * ((s : Int) + 4) / 3 + 1 = gOf s := by rw [g.1]; push_cast; rfl
          refine u_greatest_clock (by omega) ?_
          simp [s1, p3, eg]
          refine u_two_some (h := gOf s) (m := s) (by omega) (by omega) G.so fun a b h0 h1 h2 o => ?_
          simp
          refine u__law_depth (ns := [a, b]) (by omega) rfl ?_
          rw [dpt_eq gp.1 (by omega) h0 h1 h2 o G.le]
          simp [oD]
          refine u_two_none (h := gOf s + 1) (m := s) (by omega) (by omega) (G.no _ (by omega) (by omega)) ?_
          simp [lawE]
end PL

set_option Elab.async false
set_option pp.maxSteps 150
set_option pp.deepTerms false
set_option linter.all false
set_option maxRecDepth 100000
set_option maxHeartbeats 4000000
namespace K60
open PySem L2 RZ PL
def top (i : Nat) : Stmt := PySem.Challenge.pw_setsadded_k60_whole_greatest_clocks_for.main.body.getD i (.Pass ⟨0, 0, 0, 0⟩)
abbrev st__law_cup : Stmt := top 33
theorem sc__law_cup : FnScope ["script", "cell"] ["script"] (defScope st__law_cup) := ⟨rfl, rfl, rfl, by decide +kernel, rfl, by decide +kernel, by decide +kernel⟩
abbrev st__law_roll : Stmt := top 34
theorem sc__law_roll : FnScope ["cup", "many", "found", "deep"] ["cup", "many"] (defScope st__law_roll) := ⟨rfl, rfl, rfl, by decide +kernel, rfl, by decide +kernel, by decide +kernel⟩
abbrev st__law_dials : Stmt := top 38
theorem sc__law_dials : FnScope ["hours", "steps", "found", "used", "hour", "step", "there", "here"] ["hours", "steps"] (defScope st__law_dials) := ⟨rfl, rfl, rfl, by decide +kernel, rfl, by decide +kernel, by decide +kernel⟩
abbrev st__law_depth : Stmt := top 39
theorem sc__law_depth : FnScope ["hours", "steps", "found"] ["hours", "steps"] (defScope st__law_depth) := ⟨rfl, rfl, rfl, by decide +kernel, rfl, by decide +kernel, by decide +kernel⟩
abbrev st_is_integer : Stmt := top 7
theorem sc_is_integer : FnScope ["value"] ["value"] (defScope st_is_integer) := ⟨rfl, rfl, rfl, by decide +kernel, rfl, by decide +kernel, by decide +kernel⟩
abbrev st_is_whole : Stmt := top 8
theorem sc_is_whole : FnScope ["value", "low", "high"] ["value", "low", "high"] (defScope st_is_whole) := ⟨rfl, rfl, rfl, by decide +kernel, rfl, by decide +kernel, by decide +kernel⟩
abbrev st_fits_clock : Stmt := top 11
theorem sc_fits_clock : FnScope ["value"] ["value"] (defScope st_fits_clock) := ⟨rfl, rfl, rfl, by decide +kernel, rfl, by decide +kernel, by decide +kernel⟩
abbrev st_need_clock : Stmt := top 12
theorem sc_need_clock : FnScope ["value"] ["value"] (defScope st_need_clock) := ⟨rfl, rfl, rfl, by decide +kernel, rfl, by decide +kernel, by decide +kernel⟩
abbrev st_need_depth : Stmt := top 25
theorem sc_need_depth : FnScope ["value", "most"] ["value", "most"] (defScope st_need_depth) := ⟨rfl, rfl, rfl, by decide +kernel, rfl, by decide +kernel, by decide +kernel⟩
abbrev st_depth_in : Stmt := top 22
theorem sc_depth_in : FnScope ["table"] ["table"] (defScope st_depth_in) := ⟨rfl, rfl, rfl, by decide +kernel, rfl, by decide +kernel, by decide +kernel⟩
abbrev st_table_in : Stmt := top 20
theorem sc_table_in : FnScope ["hours", "steps", "found", "line", "later", "here", "step", "hour"] ["hours", "steps"] (defScope st_table_in) := ⟨rfl, rfl, rfl, by decide +kernel, rfl, by decide +kernel, by decide +kernel⟩
abbrev st_pair_in : Stmt := top 23
theorem sc_pair_in : FnScope ["hours", "many", "one", "other", "depth"] ["hours", "many"] (defScope st_pair_in) := ⟨rfl, rfl, rfl, by decide +kernel, rfl, by decide +kernel, by decide +kernel⟩
abbrev st_two_steps : Stmt := top 29
theorem sc_two_steps : FnScope ["hours", "many"] ["hours", "many"] (defScope st_two_steps) := ⟨rfl, rfl, rfl, by decide +kernel, rfl, by decide +kernel, by decide +kernel⟩
abbrev st_is_rising : Stmt := top 9
theorem sc_is_rising : FnScope ["things", "one", "other"] ["things"] (defScope st_is_rising) := ⟨rfl, rfl, rfl, by decide +kernel, rfl, by decide +kernel, by decide +kernel⟩
abbrev st_are_members : Stmt := top 10
theorem sc_are_members : FnScope ["value", "low", "high", "one"] ["value", "low", "high"] (defScope st_are_members) := ⟨rfl, rfl, rfl, by decide +kernel, rfl, by decide +kernel, by decide +kernel⟩
abbrev st_fits_clock_set : Stmt := top 13
theorem sc_fits_clock_set : FnScope ["hours", "value"] ["hours", "value"] (defScope st_fits_clock_set) := ⟨rfl, rfl, rfl, by decide +kernel, rfl, by decide +kernel, by decide +kernel⟩
abbrev st_is_clock_set : Stmt := top 15
theorem sc_is_clock_set : FnScope ["hours", "value"] ["hours", "value"] (defScope st_is_clock_set) := ⟨rfl, rfl, rfl, by decide +kernel, rfl, by decide +kernel, by decide +kernel⟩
abbrev st_need_clock_set : Stmt := top 14
theorem sc_need_clock_set : FnScope ["hours", "value"] ["hours", "value"] (defScope st_need_clock_set) := ⟨rfl, rfl, rfl, by decide +kernel, rfl, by decide +kernel, by decide +kernel⟩
abbrev st_clock_depth : Stmt := top 27
theorem sc_clock_depth : FnScope ["hours", "one"] ["hours", "one"] (defScope st_clock_depth) := ⟨rfl, rfl, rfl, by decide +kernel, rfl, by decide +kernel, by decide +kernel⟩
abbrev st__law_two_right : Stmt := top 40
theorem sc__law_two_right : FnScope ["hours", "size", "depths", "one", "able", "told", "other", "depth"] ["hours", "size"] (defScope st__law_two_right) := ⟨rfl, rfl, rfl, by decide +kernel, rfl, by decide +kernel, by decide +kernel⟩
abbrev st_perfect_clock : Stmt := top 31
theorem sc_perfect_clock : FnScope ["many"] ["many"] (defScope st_perfect_clock) := ⟨rfl, rfl, rfl, by decide +kernel, rfl, by decide +kernel, by decide +kernel⟩
abbrev st_both_of : Stmt := top 21
theorem sc_both_of : FnScope ["hours", "members", "one"] ["hours", "members"] (defScope st_both_of) := ⟨rfl, rfl, rfl, by decide +kernel, rfl, by decide +kernel, by decide +kernel⟩
abbrev st_both_table : Stmt := top 26
theorem sc_both_table : FnScope ["hours", "one"] ["hours", "one"] (defScope st_both_table) := ⟨rfl, rfl, rfl, by decide +kernel, rfl, by decide +kernel, by decide +kernel⟩
abbrev st__law_sort : Stmt := top 36
theorem sc__law_sort : FnScope ["value"] ["value"] (defScope st__law_sort) := ⟨rfl, rfl, rfl, by decide +kernel, rfl, by decide +kernel, by decide +kernel⟩
abbrev st__law_like : Stmt := top 37
theorem sc__law_like : FnScope ["one", "other", "sort", "first", "second"] ["one", "other"] (defScope st__law_like) := ⟨rfl, rfl, rfl, by decide +kernel, rfl, by decide +kernel, by decide +kernel⟩
abbrev st_both_depth : Stmt := top 28
theorem sc_both_depth : FnScope ["hours", "one"] ["hours", "one"] (defScope st_both_depth) := ⟨rfl, rfl, rfl, by decide +kernel, rfl, by decide +kernel, by decide +kernel⟩
abbrev st__law_perfect_right : Stmt := top 41
theorem sc__law_perfect_right : FnScope ["size", "hours", "steps", "table", "counts", "depth", "far"] ["size"] (defScope st__law_perfect_right) := ⟨rfl, rfl, rfl, by decide +kernel, rfl, by decide +kernel, by decide +kernel⟩
abbrev st_greatest_in_depth : Stmt := top 24
theorem sc_greatest_in_depth : FnScope ["many", "hours"] ["many"] (defScope st_greatest_in_depth) := ⟨rfl, rfl, rfl, by decide +kernel, rfl, by decide +kernel, by decide +kernel⟩
abbrev st_greatest_clock : Stmt := top 30
theorem sc_greatest_clock : FnScope ["many"] ["many"] (defScope st_greatest_clock) := ⟨rfl, rfl, rfl, by decide +kernel, rfl, by decide +kernel, by decide +kernel⟩
abbrev st_law : Stmt := top 42
theorem sc_law : FnScope ["script", "told", "cup", "most", "hours", "size", "found"] ["script"] (defScope st_law) := ⟨rfl, rfl, rfl, by decide +kernel, rfl, by decide +kernel, by decide +kernel⟩
end K60

set_option Elab.async false
set_option pp.maxSteps 150
set_option pp.deepTerms false
set_option linter.all false
set_option maxRecDepth 100000
set_option maxHeartbeats 4000000
namespace K60
open PySem L2 RZ PL
section
variable {P : Program} {w : World} {K : PySem.W.Frag} {mg : Str → Option Value} {base : Heap}
theorem der__law_cup (m_list : mg "list" = none) (m_abs : mg "abs" = none) (m_int : mg "int" = none) {f : Addr} {fd : FuncData} (F : Fun K "_law_cup" "_law_cup" st__law_cup f fd) (m : mg "_law_cup" = some (.ref f)) (hb : Binds K fd ["script"] []) : Def P w K mg base "_law_cup" 1 ["script"] (spCup K) :=
  mk_def F m hb (cup_rule F sc__law_cup (by decide) (fun C cdv A outer s H E hCK hh hr xc => (b_cons (st_set xc 1 false (s_b1 (call_abs) snd_abs rfl m_abs (by decide +kernel) (s_ix xc (s_bin (xc.hK ▸ or_add) snd_add (s_scrlist xc 0 rfl m_list (by decide +kernel)) (s_lst (a_cons s_int a_nil))) s_int)))
  (b_one (st_ret (s_lst (a_cons (s_if (t_cmp (op_ge) snd_ge (s_var 1) (s_bin (op_pow) snd_pow s_int s_int) (nomark _)) (s_bin (or_div) snd_div (s_var 1) s_int) s_int) (a_cons (s_bin (xc.hK ▸ or_add) snd_add (s_bin (op_mod) snd_mod (s_ty1 (call_int1) snd_int rfl m_int (by decide +kernel) (s_bin (xc.hK ▸ or_add) snd_add (s_bin (or_mul) snd_mul (s_var 1) s_int) s_int)) s_int) s_int) a_nil))))))) ok__law_cup)
theorem der__law_roll (m_int : mg "int" = none) {f : Addr} {fd : FuncData} (F : Fun K "_law_roll" "_law_roll" st__law_roll f fd) (m : mg "_law_roll" = some (.ref f)) (hb : Binds K fd ["cup", "many"] []) : Def P w K mg base "_law_roll" 1 ["cup", "many"] (spOf K true sp__law_roll) :=
  mk_def F m hb (fn_rule (φ := b__law_roll) F sc__law_roll len__law_roll (by decide) (fun C cdv A outer s H E hCK hh hr xc => (b_cons (st_if (t_cmp (op_gt) snd_gt (s_cupix xc 0 0) s_int (nomark _)) (b_cons (st_set xc 2 false (s_bin (op_mod) snd_mod (s_ty1 (call_int1) snd_int rfl m_int (by decide +kernel) (s_cupix xc 0 0)) (s_var 1)))
  (b_cons (st_cupset xc 0 0 (s_bin (or_div) snd_div (s_cupix xc 0 0) (s_var 1)))
  (b_one (st_ret (s_var 2))))) b_nil)
  (b_cons (st_cupset xc 0 1 (s_bin (op_mod) snd_mod (s_ty1 (call_int1) snd_int rfl m_int (by decide +kernel) (s_bin (xc.hK ▸ or_add) snd_add (s_bin (or_mul) snd_mul (s_cupix xc 0 1) s_int) s_int)) s_int))
  (b_cons (st_set xc 3 false (s_bin (op_mod) snd_mod (s_ty1 (call_int1) snd_int rfl m_int (by decide +kernel) (s_bin (or_mul) snd_mul (s_cupix xc 0 1) (s_bin (xc.hK ▸ or_add) snd_add (s_cupix xc 0 1) s_int))) s_int))
  (b_one (st_ret (s_bin (op_mod) snd_mod (s_ty1 (call_int1) snd_int rfl m_int (by decide +kernel) (s_bin (or_div) snd_div (s_var 3) s_int)) (s_var 1)))))))) ok__law_roll)
theorem der__law_dials (m_range : mg "range" = none) (m_int : mg "int" = none) {f : Addr} {fd : FuncData} (F : Fun K "_law_dials" "_law_dials" st__law_dials f fd) (m : mg "_law_dials" = some (.ref f)) (hb : Binds K fd ["hours", "steps"] []) : Def P w K mg base "_law_dials" 1 ["hours", "steps"] (spOf K false sp__law_dials) :=
  mk_def F m hb (fn_rule (φ := b__law_dials) F sc__law_dials len__law_dials (by decide) (fun C cdv A outer s H E hCK hh hr xc => (b_cons (st_set xc 2 true (s_bin (xc.hK ▸ or_add) snd_add (s_lst (a_cons s_int a_nil)) (s_bin (or_mul) snd_mul (s_lst (a_cons s_non a_nil)) (s_bin (or_sub) snd_sub (s_var 0) s_int))))
  (b_cons (st_for xc PassesOwn.never (i_rng2 rfl m_range s_int (s_bin (xc.hK ▸ or_add) snd_add (s_var 0) s_int)) (g_name xc 3) (b_one (st_for xc PassesOwn.never (i_seq xc (s_compX xc [("here", 7)] (i_rng1 rfl m_range (s_var 0)) (by kernel_rfl) (fun s H Ca cl fp xc => (g_name xc 7)) (by decide) (fun s H Ca cl fp xc => (c_one (t_cmp (xc.hK ▸ op_eqD xc.un) snd_eq (s_ix xc (s_var 2) (s_var 7)) (s_bin (or_sub) snd_sub (s_var 3) s_int) (nomark _)))) (fun s H Ca cl fp xc => (s_var 7)))) (g_name xc 4) (b_one (st_for xc PassesOwn.never (i_seq xc (s_var 1)) (g_name xc 5) (b_cons (st_set xc 6 false (s_bin (op_mod) snd_mod (s_ty1 (call_int1) snd_int rfl m_int (by decide +kernel) (s_bin (xc.hK ▸ or_add) snd_add (s_var 4) (s_var 5))) (s_var 0)))
  (b_one (st_setIx xc 2 (s_if (t_cmp (op_isN) snd_isN (s_ix xc (s_var 2) (s_var 6)) s_non (nomark _)) (s_var 3) (s_ix xc (s_var 2) (s_var 6))) (s_var 6)))))))))
  (b_one (st_ret (s_mv 2)))))) ok__law_dials)
theorem der__law_depth (m_max : mg "max" = none) (D__law_dials : Def P w K mg base "_law_dials" 1 ["hours", "steps"] (spOf K false sp__law_dials)) {f : Addr} {fd : FuncData} (F : Fun K "_law_depth" "_law_depth" st__law_depth f fd) (m : mg "_law_depth" = some (.ref f)) (hb : Binds K fd ["hours", "steps"] []) : Def P w K mg base "_law_depth" 2 ["hours", "steps"] (spOf K false sp__law_depth) :=
  mk_def F m hb (fn_rule (φ := b__law_depth) F sc__law_depth len__law_depth (by decide) (fun C cdv A outer s H E hCK hh hr xc => (b_cons (st_set xc 2 false (s_callD xc D__law_dials (hr.mono (by decide)) rfl (a_cons (s_var 0) (a_cons (s_var 1) a_nil))))
  (b_one (st_ret (s_if (t_cmp (xc.hK ▸ op_in_seq) (snd_in false) s_non (s_var 2) rfl) s_non (s_b1 (xc.hK ▸ cr_max xc.calm) snd_max rfl m_max (by decide +kernel) (s_var 2))))))) ok__law_depth)
theorem der_is_integer (m_isinstance : mg "isinstance" = none) (m_int : mg "int" = none) (m_bool : mg "bool" = none) {f : Addr} {fd : FuncData} (F : Fun K "is_integer" "is_integer" st_is_integer f fd) (m : mg "is_integer" = some (.ref f)) (hb : Binds K fd ["value"] []) : Def P w K mg base "is_integer" 1 ["value"] (spOf K false sp_is_integer) :=
  mk_def F m hb (fn_rule (φ := b_is_integer) F sc_is_integer len_is_integer (by decide) (fun C cdv A outer s H E hCK hh hr xc => (b_one (st_ret (s_and (s_isi xc kit_int rfl m_isinstance rfl m_int (by decide +kernel) (s_var 0)) (s_one (s_not (s_isi xc kit_bool rfl m_isinstance rfl m_bool (by decide +kernel) (s_var 0)))))))) ok_is_integer)
theorem der_is_whole (D_is_integer : Def P w K mg base "is_integer" 1 ["value"] (spOf K false sp_is_integer)) {f : Addr} {fd : FuncData} (F : Fun K "is_whole" "is_whole" st_is_whole f fd) (m : mg "is_whole" = some (.ref f)) (hb : Binds K fd ["value", "low", "high"] []) : Def P w K mg base "is_whole" 2 ["value", "low", "high"] (spOf K false sp_is_whole) :=
  mk_def F m hb (fn_rule (φ := b_is_whole) F sc_is_whole len_is_whole (by decide) (fun C cdv A outer s H E hCK hh hr xc => (b_one (st_ret (s_and (s_callD xc D_is_integer (hr.mono (by decide)) rfl (a_cons (s_var 0) a_nil)) (s_one (s_chain (op_le) (op_le) snd_le snd_le (s_var 1) (s_var 0) (s_var 2))))))) ok_is_whole)
theorem der_fits_clock {t_MOST : Tok} (c_MOST : mg "MOST" = some (.int 400 t_MOST)) (D_is_whole : Def P w K mg base "is_whole" 2 ["value", "low", "high"] (spOf K false sp_is_whole)) {f : Addr} {fd : FuncData} (F : Fun K "fits_clock" "fits_clock" st_fits_clock f fd) (m : mg "fits_clock" = some (.ref f)) (hb : Binds K fd ["value"] []) : Def P w K mg base "fits_clock" 3 ["value"] (spOf K false sp_fits_clock) :=
  mk_def F m hb (fn_rule (φ := b_fits_clock) F sc_fits_clock len_fits_clock (by decide) (fun C cdv A outer s H E hCK hh hr xc => (b_one (st_ret (s_callD xc D_is_whole (hr.mono (by decide)) rfl (a_cons (s_var 0) (a_cons s_int (a_cons (s_gint rfl c_MOST) a_nil))))))) ok_fits_clock)
theorem der_need_clock (D_fits_clock : Def P w K mg base "fits_clock" 3 ["value"] (spOf K false sp_fits_clock)) {f : Addr} {fd : FuncData} (F : Fun K "need_clock" "need_clock" st_need_clock f fd) (m : mg "need_clock" = some (.ref f)) (hb : Binds K fd ["value"] []) : Def P w K mg base "need_clock" 4 ["value"] (spOf K false sp_need_clock) :=
  mk_def F m hb (fn_rule (φ := b_need_clock) F sc_need_clock len_need_clock (by decide) (fun C cdv A outer s H E hCK hh hr xc => (b_one (st_if (t_not (t_tr xc (s_callD xc D_fits_clock (hr.mono (by decide)) rfl (a_cons (s_var 0) a_nil)))) (b_one st_never) b_nil))) ok_need_clock)
theorem der_need_depth (D_is_whole : Def P w K mg base "is_whole" 2 ["value", "low", "high"] (spOf K false sp_is_whole)) {f : Addr} {fd : FuncData} (F : Fun K "need_depth" "need_depth" st_need_depth f fd) (m : mg "need_depth" = some (.ref f)) (hb : Binds K fd ["value", "most"] []) : Def P w K mg base "need_depth" 3 ["value", "most"] (spOf K false sp_need_depth) :=
  mk_def F m hb (fn_rule (φ := b_need_depth) F sc_need_depth len_need_depth (by decide) (fun C cdv A outer s H E hCK hh hr xc => (b_one (st_if (t_not (t_tr xc (s_callD xc D_is_whole (hr.mono (by decide)) rfl (a_cons (s_var 0) (a_cons s_int (a_cons (s_var 1) a_nil)))))) (b_one st_never) b_nil))) ok_need_depth)
theorem der_depth_in (m_max : mg "max" = none) {f : Addr} {fd : FuncData} (F : Fun K "depth_in" "depth_in" st_depth_in f fd) (m : mg "depth_in" = some (.ref f)) (hb : Binds K fd ["table"] []) : Def P w K mg base "depth_in" 1 ["table"] (spOf K false sp_depth_in) :=
  mk_def F m hb (fn_rule (φ := b_depth_in) F sc_depth_in len_depth_in (by decide) (fun C cdv A outer s H E hCK hh hr xc => (b_one (st_ret (s_if (t_cmp (xc.hK ▸ op_notIn_seq) (snd_in true) s_non (s_var 0) rfl) (s_b1 (xc.hK ▸ cr_max xc.calm) snd_max rfl m_max (by decide +kernel) (s_var 0)) s_non)))) ok_depth_in)
theorem der_table_in  {f : Addr} {fd : FuncData} (F : Fun K "table_in" "table_in" st_table_in f fd) (m : mg "table_in" = some (.ref f)) (hb : Binds K fd ["hours", "steps"] []) : Def P w K mg base "table_in" 1 ["hours", "steps"] (spOf K false sp_table_in) :=
  mk_def F m hb (fn_rule (φ := b_table_in) F sc_table_in len_table_in (by decide) (fun C cdv A outer s H E hCK hh hr xc => (b_cons (st_par xc 2 3 true false (s_bin (or_mul) snd_mul (s_lst (a_cons s_non a_nil)) (s_var 0)) (s_lst (a_cons s_int a_nil)))
  (b_cons (st_setIx xc 2 s_int s_int)
  (b_cons (st_while PassesOwn.never (t_cmp (xc.hK ▸ op_neD xc.un) snd_ne (s_var 3) (s_lst a_nil) (nomark _)) (b_cons (st_set xc 4 true (s_lst a_nil))
  (b_cons (st_for xc PassesOwn.never (i_seq xc (s_var 3)) (g_name xc 5) (b_one (st_for xc PassesOwn.never (i_seq xc (s_var 1)) (g_name xc 6) (b_cons (st_set xc 7 false (s_bin (op_mod) snd_mod (s_bin (xc.hK ▸ or_add) snd_add (s_var 5) (s_var 6)) (s_var 0)))
  (b_one (st_if (t_cmp (op_isN) snd_isN (s_ix xc (s_var 2) (s_var 7)) s_non (nomark _)) (b_cons (st_setIx xc 2 (s_bin (xc.hK ▸ or_add) snd_add (s_ix xc (s_var 2) (s_var 5)) s_int) (s_var 7))
  (b_one (st_app xc 4 (s_var 7)))) b_nil))))))
  (b_one (st_set xc 3 false (s_mv 4))))))
  (b_one (st_ret (s_mv 2))))))) ok_table_in)
theorem der_pair_in (m_range : mg "range" = none) (D_depth_in : Def P w K mg base "depth_in" 1 ["table"] (spOf K false sp_depth_in)) (D_table_in : Def P w K mg base "table_in" 1 ["hours", "steps"] (spOf K false sp_table_in)) {f : Addr} {fd : FuncData} (F : Fun K "pair_in" "pair_in" st_pair_in f fd) (m : mg "pair_in" = some (.ref f)) (hb : Binds K fd ["hours", "many"] []) : Def P w K mg base "pair_in" 2 ["hours", "many"] (spOf K false sp_pair_in) :=
  mk_def F m hb (fn_rule (φ := b_pair_in) F sc_pair_in len_pair_in (by decide) (fun C cdv A outer s H E hCK hh hr xc => (b_cons (st_for xc PassesOwn.never (i_rng1 rfl m_range (s_var 0)) (g_name xc 2) (b_one (st_for xc PassesOwn.never (i_rng2 rfl m_range (s_bin (xc.hK ▸ or_add) snd_add (s_var 2) s_int) (s_var 0)) (g_name xc 3) (b_cons (st_set xc 4 false (s_callD xc D_depth_in (hr.mono (by decide)) rfl (a_cons (s_callD xc D_table_in (hr.mono (by decide)) rfl (a_cons (s_var 0) (a_cons (s_tup (a_cons (s_var 2) (a_cons (s_var 3) a_nil))) a_nil))) a_nil)))
  (b_one (st_if (t_w (w_and (t_cmp (op_notN) snd_notN (s_var 4) s_non (nomark _)) (w_and1 (t_cmp (op_le) snd_le (s_var 4) (s_var 1) (nomark _))))) (b_one (st_ret (s_tup (a_cons (s_var 2) (a_cons (s_var 3) a_nil))))) b_nil))))))
  (b_one (st_ret s_non)))) ok_pair_in)
theorem der_two_steps {t_SEARCHED : Tok} (c_SEARCHED : mg "SEARCHED" = some (.int 60 t_SEARCHED)) (D_need_clock : Def P w K mg base "need_clock" 4 ["value"] (spOf K false sp_need_clock)) (D_need_depth : Def P w K mg base "need_depth" 3 ["value", "most"] (spOf K false sp_need_depth)) (D_pair_in : Def P w K mg base "pair_in" 2 ["hours", "many"] (spOf K false sp_pair_in)) {f : Addr} {fd : FuncData} (F : Fun K "two_steps" "two_steps" st_two_steps f fd) (m : mg "two_steps" = some (.ref f)) (hb : Binds K fd ["hours", "many"] []) : Def P w K mg base "two_steps" 5 ["hours", "many"] (spOf K false sp_two_steps) :=
  mk_def F m hb (fn_rule (φ := b_two_steps) F sc_two_steps len_two_steps (by decide) (fun C cdv A outer s H E hCK hh hr xc => (b_cons (st_exp (s_callD xc D_need_clock (hr.mono (by decide)) rfl (a_cons (s_var 0) a_nil)))
  (b_cons (st_if (t_cmp (op_gt) snd_gt (s_var 0) (s_gint rfl c_SEARCHED) (nomark _)) (b_one st_never) b_nil)
  (b_cons (st_exp (s_callD xc D_need_depth (hr.mono (by decide)) rfl (a_cons (s_var 1) (a_cons (s_var 0) a_nil))))
  (b_one (st_ret (s_callD xc D_pair_in (hr.mono (by decide)) rfl (a_cons (s_var 0) (a_cons (s_var 1) a_nil))))))))) ok_two_steps)
theorem der_is_rising (m_zip : mg "zip" = none) (m_all : mg "all" = none) {f : Addr} {fd : FuncData} (F : Fun K "is_rising" "is_rising" st_is_rising f fd) (m : mg "is_rising" = some (.ref f)) (hb : Binds K fd ["things"] []) : Def P w K mg base "is_rising" 1 ["things"] (spOf K false sp_is_rising) :=
  mk_def F m hb (fn_rule (φ := b_is_rising) F sc_is_rising len_is_rising (by decide) (fun C cdv A outer s H E hCK hh hr xc => (b_one (st_ret (s_b1 (xc.hK ▸ cr_all xc.calm) snd_all rfl m_all (by decide +kernel) (s_compX xc [("one", 1), ("other", 2)] (i_zip xc rfl m_zip (s_var 0) (s_sl xc (s_var 0) (o_some s_int) o_none)) (by kernel_rfl) (fun s H Ca cl fp xc => (g_tup xc (g_cons (g_name xc 1) (g_cons (g_name xc 2) g_nil)))) (by decide) (fun s H Ca cl fp xc => c_nil) (fun s H Ca cl fp xc => (s_cmp (op_lt) snd_lt (s_var 1) (s_var 2) (nomark _)))))))) ok_is_rising)
theorem der_are_members (m_isinstance : mg "isinstance" = none) (m_tuple : mg "tuple" = none) (m_all : mg "all" = none) (D_is_whole : Def P w K mg base "is_whole" 2 ["value", "low", "high"] (spOf K false sp_is_whole)) (D_is_rising : Def P w K mg base "is_rising" 1 ["things"] (spOf K false sp_is_rising)) {f : Addr} {fd : FuncData} (F : Fun K "are_members" "are_members" st_are_members f fd) (m : mg "are_members" = some (.ref f)) (hb : Binds K fd ["value", "low", "high"] []) : Def P w K mg base "are_members" 3 ["value", "low", "high"] (spOf K false sp_are_members) :=
  mk_def F m hb (fn_rule (φ := b_are_members) F sc_are_members len_are_members (by decide) (fun C cdv A outer s H E hCK hh hr xc => (b_one (st_ret (s_and (s_isi xc kit_tuple rfl m_isinstance rfl m_tuple (by decide +kernel) (s_var 0)) (s_and (s_b1 (xc.hK ▸ cr_all xc.calm) snd_all rfl m_all (by decide +kernel) (s_compX xc [("one", 3)] (i_seq xc (s_var 0)) (by kernel_rfl) (fun s H Ca cl fp xc => (g_name xc 3)) (by decide) (fun s H Ca cl fp xc => c_nil) (fun s H Ca cl fp xc => (s_callD xc D_is_whole (hr.mono (by decide)) rfl (a_cons (s_var 3) (a_cons (s_var 1) (a_cons (s_var 2) a_nil))))))) (s_one (s_callD xc D_is_rising (hr.mono (by decide)) rfl (a_cons (s_var 0) a_nil)))))))) ok_are_members)
theorem der_fits_clock_set (D_are_members : Def P w K mg base "are_members" 3 ["value", "low", "high"] (spOf K false sp_are_members)) {f : Addr} {fd : FuncData} (F : Fun K "fits_clock_set" "fits_clock_set" st_fits_clock_set f fd) (m : mg "fits_clock_set" = some (.ref f)) (hb : Binds K fd ["hours", "value"] []) : Def P w K mg base "fits_clock_set" 4 ["hours", "value"] (spOf K false sp_fits_clock_set) :=
  mk_def F m hb (fn_rule (φ := b_fits_clock_set) F sc_fits_clock_set len_fits_clock_set (by decide) (fun C cdv A outer s H E hCK hh hr xc => (b_one (st_ret (s_callD xc D_are_members (hr.mono (by decide)) rfl (a_cons (s_var 1) (a_cons s_int (a_cons (s_bin (or_sub) snd_sub (s_var 0) s_int) a_nil))))))) ok_fits_clock_set)
theorem der_is_clock_set (D_need_clock : Def P w K mg base "need_clock" 4 ["value"] (spOf K false sp_need_clock)) (D_fits_clock_set : Def P w K mg base "fits_clock_set" 4 ["hours", "value"] (spOf K false sp_fits_clock_set)) {f : Addr} {fd : FuncData} (F : Fun K "is_clock_set" "is_clock_set" st_is_clock_set f fd) (m : mg "is_clock_set" = some (.ref f)) (hb : Binds K fd ["hours", "value"] []) : Def P w K mg base "is_clock_set" 5 ["hours", "value"] (spOf K false sp_is_clock_set) :=
  mk_def F m hb (fn_rule (φ := b_is_clock_set) F sc_is_clock_set len_is_clock_set (by decide) (fun C cdv A outer s H E hCK hh hr xc => (b_cons (st_exp (s_callD xc D_need_clock (hr.mono (by decide)) rfl (a_cons (s_var 0) a_nil)))
  (b_one (st_ret (s_callD xc D_fits_clock_set (hr.mono (by decide)) rfl (a_cons (s_var 0) (a_cons (s_var 1) a_nil))))))) ok_is_clock_set)
theorem der_need_clock_set (D_need_clock : Def P w K mg base "need_clock" 4 ["value"] (spOf K false sp_need_clock)) (D_fits_clock_set : Def P w K mg base "fits_clock_set" 4 ["hours", "value"] (spOf K false sp_fits_clock_set)) {f : Addr} {fd : FuncData} (F : Fun K "need_clock_set" "need_clock_set" st_need_clock_set f fd) (m : mg "need_clock_set" = some (.ref f)) (hb : Binds K fd ["hours", "value"] []) : Def P w K mg base "need_clock_set" 5 ["hours", "value"] (spOf K false sp_need_clock_set) :=
  mk_def F m hb (fn_rule (φ := b_need_clock_set) F sc_need_clock_set len_need_clock_set (by decide) (fun C cdv A outer s H E hCK hh hr xc => (b_cons (st_exp (s_callD xc D_need_clock (hr.mono (by decide)) rfl (a_cons (s_var 0) a_nil)))
  (b_one (st_if (t_not (t_tr xc (s_callD xc D_fits_clock_set (hr.mono (by decide)) rfl (a_cons (s_var 0) (a_cons (s_var 1) a_nil))))) (b_one st_never) b_nil)))) ok_need_clock_set)
theorem der_clock_depth (D_need_clock_set : Def P w K mg base "need_clock_set" 5 ["hours", "value"] (spOf K false sp_need_clock_set)) (D_depth_in : Def P w K mg base "depth_in" 1 ["table"] (spOf K false sp_depth_in)) (D_table_in : Def P w K mg base "table_in" 1 ["hours", "steps"] (spOf K false sp_table_in)) {f : Addr} {fd : FuncData} (F : Fun K "clock_depth" "clock_depth" st_clock_depth f fd) (m : mg "clock_depth" = some (.ref f)) (hb : Binds K fd ["hours", "one"] []) : Def P w K mg base "clock_depth" 6 ["hours", "one"] (spOf K false sp_clock_depth) :=
  mk_def F m hb (fn_rule (φ := b_clock_depth) F sc_clock_depth len_clock_depth (by decide) (fun C cdv A outer s H E hCK hh hr xc => (b_cons (st_exp (s_callD xc D_need_clock_set (hr.mono (by decide)) rfl (a_cons (s_var 0) (a_cons (s_var 1) a_nil))))
  (b_one (st_ret (s_callD xc D_depth_in (hr.mono (by decide)) rfl (a_cons (s_callD xc D_table_in (hr.mono (by decide)) rfl (a_cons (s_var 0) (a_cons (s_var 1) a_nil))) a_nil)))))) ok_clock_depth)
theorem der__law_two_right (m_range : mg "range" = none) (m_len : mg "len" = none) (D__law_depth : Def P w K mg base "_law_depth" 2 ["hours", "steps"] (spOf K false sp__law_depth)) (D_two_steps : Def P w K mg base "two_steps" 5 ["hours", "many"] (spOf K false sp_two_steps)) (D_is_clock_set : Def P w K mg base "is_clock_set" 5 ["hours", "value"] (spOf K false sp_is_clock_set)) (D_clock_depth : Def P w K mg base "clock_depth" 6 ["hours", "one"] (spOf K false sp_clock_depth)) {f : Addr} {fd : FuncData} (F : Fun K "_law_two_right" "_law_two_right" st__law_two_right f fd) (m : mg "_law_two_right" = some (.ref f)) (hb : Binds K fd ["hours", "size"] []) : Def P w K mg base "_law_two_right" 7 ["hours", "size"] (spOf K false sp__law_two_right) :=
  mk_def F m hb (fn_rule (φ := b__law_two_right) F sc__law_two_right len__law_two_right (by decide) (fun C cdv A outer s H E hCK hh hr xc => (b_cons (st_set xc 2 false (s_lst a_nil))
  (b_cons (st_for xc PassesOwn.never (i_rng1 rfl m_range (s_var 0)) (g_name xc 3) (b_one (st_set xc 2 false (s_bin (xc.hK ▸ or_add) snd_add (s_var 2) (s_compX xc [("other", 6)] (i_rng2 rfl m_range (s_bin (xc.hK ▸ or_add) snd_add (s_var 3) s_int) (s_var 0)) (by kernel_rfl) (fun s H Ca cl fp xc => (g_name xc 6)) (by decide) (fun s H Ca cl fp xc => c_nil) (fun s H Ca cl fp xc => (s_callD xc D__law_depth (hr.mono (by decide)) rfl (a_cons (s_var 0) (a_cons (s_tup (a_cons (s_var 3) (a_cons (s_var 6) a_nil))) a_nil)))))))))
  (b_cons (st_setcX xc 4 false [("depth", 7)] (i_seq xc (s_var 2)) (by kernel_rfl) (fun s H Ca cl fp xc => (g_name xc 7)) (by decide) (fun s H Ca cl fp xc => (c_one (t_w (w_and (t_cmp (op_notN) snd_notN (s_var 7) s_non (nomark _)) (w_and1 (t_cmp (op_le) snd_le (s_var 7) (s_var 1) (nomark _))))))) (fun s H Ca cl fp xc => (s_var 7)))
  (b_cons (st_set xc 5 false (s_callD xc D_two_steps (hr.mono (by decide)) rfl (a_cons (s_var 0) (a_cons (s_var 1) a_nil))))
  (b_cons (st_if (t_cmp (xc.hK ▸ op_neD xc.un) snd_ne (s_cmp (op_isN) snd_isN (s_var 5) s_non (nomark _)) (s_cmp (xc.hK ▸ op_eqD xc.un) snd_eq (s_var 4) (s_lst a_nil) (nomark _)) (nomark _)) (b_one (st_ret s_bl)) b_nil)
  (b_one (st_ret (s_or (s_cmp (op_isN) snd_isN (s_var 5) s_non (nomark _)) (s_one (s_and (s_cmp (op_is_bl) snd_isB (s_callD xc D_is_clock_set (hr.mono (by decide)) rfl (a_cons (s_var 0) (a_cons (s_var 5) a_nil))) s_bl (nomark _)) (s_and (s_cmp (xc.hK ▸ op_eqD xc.un) snd_eq (s_b1 (xc.hK ▸ call_len_seq) snd_len rfl m_len (by decide +kernel) (s_var 5)) s_int (nomark _)) (s_and (s_cmp (op_le) snd_le (s_callD xc D__law_depth (hr.mono (by decide)) rfl (a_cons (s_var 0) (a_cons (s_var 5) a_nil))) (s_var 1) (nomark _)) (s_one (s_cmp (op_le) snd_le (s_callD xc D_clock_depth (hr.mono (by decide)) rfl (a_cons (s_var 0) (a_cons (s_var 5) a_nil))) (s_var 1) (nomark _)))))))))))))))) ok__law_two_right)
theorem der_perfect_clock {t_MOST_BOTH : Tok} (c_MOST_BOTH : mg "MOST_BOTH" = some (.int 13 t_MOST_BOTH)) (D_need_depth : Def P w K mg base "need_depth" 3 ["value", "most"] (spOf K false sp_need_depth)) {f : Addr} {fd : FuncData} (F : Fun K "perfect_clock" "perfect_clock" st_perfect_clock f fd) (m : mg "perfect_clock" = some (.ref f)) (hb : Binds K fd ["many"] []) : Def P w K mg base "perfect_clock" 4 ["many"] (spOf K false sp_perfect_clock) :=
  mk_def F m hb (fn_rule (φ := b_perfect_clock) F sc_perfect_clock len_perfect_clock (by decide) (fun C cdv A outer s H E hCK hh hr xc => (b_cons (st_exp (s_callD xc D_need_depth (hr.mono (by decide)) rfl (a_cons (s_var 0) (a_cons (s_gint rfl c_MOST_BOTH) a_nil))))
  (b_one (st_ret (s_tup (a_cons (s_bin (xc.hK ▸ or_add) snd_add (s_bin (xc.hK ▸ or_add) snd_add (s_bin (or_mul) snd_mul (s_bin (or_mul) snd_mul s_int (s_var 0)) (s_var 0)) (s_bin (or_mul) snd_mul s_int (s_var 0))) s_int) (a_cons (s_tup (a_cons (s_var 0) (a_cons (s_bin (xc.hK ▸ or_add) snd_add (s_var 0) s_int) a_nil))) a_nil))))))) ok_perfect_clock)
theorem der_both_of (m_sorted : mg "sorted" = none) (m_set : mg "set" = none) {f : Addr} {fd : FuncData} (F : Fun K "both_of" "both_of" st_both_of f fd) (m : mg "both_of" = some (.ref f)) (hb : Binds K fd ["hours", "members"] []) : Def P w K mg base "both_of" 1 ["hours", "members"] (spOf K false sp_both_of) :=
  mk_def F m hb (fn_rule (φ := b_both_of) F sc_both_of len_both_of (by decide) (fun C cdv A outer s H E hCK hh hr xc => (b_one (st_ret (s_sortset xc rfl m_sorted rfl m_set (s_bin (xc.hK ▸ or_add) snd_add (s_compX xc [("one", 2)] (i_seq xc (s_var 1)) (by kernel_rfl) (fun s H Ca cl fp xc => (g_name xc 2)) (by decide) (fun s H Ca cl fp xc => c_nil) (fun s H Ca cl fp xc => (s_bin (op_mod) snd_mod (s_var 2) (s_var 0)))) (s_compX xc [("one", 2)] (i_seq xc (s_var 1)) (by kernel_rfl) (fun s H Ca cl fp xc => (g_name xc 2)) (by decide) (fun s H Ca cl fp xc => c_nil) (fun s H Ca cl fp xc => (s_bin (op_mod) snd_mod (s_bin (or_sub) snd_sub (s_var 0) (s_var 2)) (s_var 0))))))))) ok_both_of)
theorem der_both_table (m_tuple : mg "tuple" = none) (D_need_clock_set : Def P w K mg base "need_clock_set" 5 ["hours", "value"] (spOf K false sp_need_clock_set)) (D_table_in : Def P w K mg base "table_in" 1 ["hours", "steps"] (spOf K false sp_table_in)) (D_both_of : Def P w K mg base "both_of" 1 ["hours", "members"] (spOf K false sp_both_of)) {f : Addr} {fd : FuncData} (F : Fun K "both_table" "both_table" st_both_table f fd) (m : mg "both_table" = some (.ref f)) (hb : Binds K fd ["hours", "one"] []) : Def P w K mg base "both_table" 6 ["hours", "one"] (spOf K false sp_both_table) :=
  mk_def F m hb (fn_rule (φ := b_both_table) F sc_both_table len_both_table (by decide) (fun C cdv A outer s H E hCK hh hr xc => (b_cons (st_exp (s_callD xc D_need_clock_set (hr.mono (by decide)) rfl (a_cons (s_var 0) (a_cons (s_var 1) a_nil))))
  (b_one (st_ret (s_ty1 (xc.hK ▸ call_tuple_of) snd_tuple rfl m_tuple (by decide +kernel) (s_callD xc D_table_in (hr.mono (by decide)) rfl (a_cons (s_var 0) (a_cons (s_callD xc D_both_of (hr.mono (by decide)) rfl (a_cons (s_var 0) (a_cons (s_var 1) a_nil))) a_nil)))))))) ok_both_table)
theorem der__law_sort (m_isinstance : mg "isinstance" = none) (m_bool : mg "bool" = none) (m_int : mg "int" = none) (m_str : mg "str" = none) (m_tuple : mg "tuple" = none) (m_list : mg "list" = none) {f : Addr} {fd : FuncData} (F : Fun K "_law_sort" "_law_sort" st__law_sort f fd) (m : mg "_law_sort" = some (.ref f)) (hb : Binds K fd ["value"] []) : Def P w K mg base "_law_sort" 1 ["value"] (spOf K false sp__law_sort) :=
  mk_def F m hb (fn_rule (φ := b__law_sort) F sc__law_sort len__law_sort (by decide) (fun C cdv A outer s H E hCK hh hr xc => (b_cons (st_if (t_w (w_or (t_cmp (op_isN) snd_isN (s_var 0) s_non (nomark _)) (w_or1 (t_tr xc (s_isi xc kit_bool rfl m_isinstance rfl m_bool (by decide +kernel) (s_var 0)))))) (b_one (st_ret (s_if (t_cmp (op_isN) snd_isN (s_var 0) s_non (nomark _)) s_int s_int))) b_nil)
  (b_cons (st_if (t_w (w_or (t_tr xc (s_isi xc kit_int rfl m_isinstance rfl m_int (by decide +kernel) (s_var 0))) (w_or1 (t_tr xc (s_isi xc kit_str rfl m_isinstance rfl m_str (by decide +kernel) (s_var 0)))))) (b_one (st_ret (s_if (t_tr xc (s_isi xc kit_int rfl m_isinstance rfl m_int (by decide +kernel) (s_var 0))) s_int s_int))) b_nil)
  (b_one (st_ret (s_if (t_tr xc (s_isi xc kit_tuple rfl m_isinstance rfl m_tuple (by decide +kernel) (s_var 0))) s_int (s_if (t_tr xc (s_isi xc kit_list rfl m_isinstance rfl m_list (by decide +kernel) (s_var 0))) s_int s_int))))))) ok__law_sort)
theorem step__law_like (n : Nat) (m_len : mg "len" = none) (m_zip : mg "zip" = none) (D__law_sort : Def P w K mg base "_law_sort" 1 ["value"] (spOf K false sp__law_sort)) (D__law_like : Def P w K mg base "_law_like" (1 + n) ["one", "other"] (spOf K false (spr__law_like n))) {f : Addr} {fd : FuncData} (F : Fun K "_law_like" "_law_like" st__law_like f fd) (m : mg "_law_like" = some (.ref f)) (hb : Binds K fd ["one", "other"] []) : Def P w K mg base "_law_like" (1 + n + 1) ["one", "other"] (spOf K false (spr__law_like (n + 1))) :=
  mk_def F m hb (fn_rule (φ := b__law_like (spr__law_like n)) F sc__law_like (len__law_like (n + 1)) (by decide) (fun C cdv A outer s H E hCK hh hr xc => (b_cons (st_set xc 2 false (s_callD xc D__law_sort (hr.mono (by omega)) rfl (a_cons (s_var 1) a_nil)))
  (b_cons (st_if (t_w (w_or (t_cmp (xc.hK ▸ op_neD xc.un) snd_ne (s_callD xc D__law_sort (hr.mono (by omega)) rfl (a_cons (s_var 0) a_nil)) (s_var 2) (nomark _)) (w_or1 (t_cmp (xc.hK ▸ op_eqD xc.un) snd_eq (s_var 2) s_int (nomark _))))) (b_one (st_ret s_bl)) b_nil)
  (b_cons (st_if (t_cmp (xc.hK ▸ op_in_seq) (snd_in false) (s_var 2) (s_tup (a_cons s_int (a_cons s_int a_nil))) rfl) (b_one (st_ret (s_and (s_cmp (xc.hK ▸ op_eqD xc.un) snd_eq (s_b1 (xc.hK ▸ call_len_seq) snd_len rfl m_len (by decide +kernel) (s_var 0)) (s_b1 (xc.hK ▸ call_len_seq) snd_len rfl m_len (by decide +kernel) (s_var 1)) (nomark _)) (s_one (s_cmp (xc.hK ▸ op_eqD xc.un) snd_eq (s_compX xc [("first", 3), ("second", 4)] (i_zip xc rfl m_zip (s_var 0) (s_var 1)) (by kernel_rfl) (fun s H Ca cl fp xc => (g_tup xc (g_cons (g_name xc 3) (g_cons (g_name xc 4) g_nil)))) (by decide) (fun s H Ca cl fp xc => (c_one (t_not (t_tr xc (s_callD xc D__law_like (hr.mono (by omega)) rfl (a_cons (s_var 3) (a_cons (s_var 4) a_nil))))))) (fun s H Ca cl fp xc => s_int)) (s_lst a_nil) (nomark _)))))) b_nil)
  (b_one (st_ret (s_cmp (xc.hK ▸ op_eqD xc.un) snd_eq (s_var 0) (s_var 1) (nomark _)))))))) (ok__law_like n))
theorem all__law_like (m_len : mg "len" = none) (m_zip : mg "zip" = none) (D__law_sort : Def P w K mg base "_law_sort" 1 ["value"] (spOf K false sp__law_sort)) {f : Addr} {fd : FuncData} (F : Fun K "_law_like" "_law_like" st__law_like f fd) (m : mg "_law_like" = some (.ref f)) (hb : Binds K fd ["one", "other"] []) : ∀ n, Def P w K mg base "_law_like" (1 + n) ["one", "other"] (spOf K false (spr__law_like n))
  | 0 => def_false F m hb fun _ _ h => h
  | n + 1 => step__law_like n m_len m_zip D__law_sort (all__law_like m_len m_zip D__law_sort F m hb n) F m hb
theorem der__law_like (m_len : mg "len" = none) (m_zip : mg "zip" = none) (D__law_sort : Def P w K mg base "_law_sort" 1 ["value"] (spOf K false sp__law_sort)) {f : Addr} {fd : FuncData} (F : Fun K "_law_like" "_law_like" st__law_like f fd) (m : mg "_law_like" = some (.ref f)) (hb : Binds K fd ["one", "other"] []) : Def P w K mg base "_law_like" 9 ["one", "other"] (spOf K false sp__law_like) := all__law_like m_len m_zip D__law_sort F m hb 8
theorem der_both_depth (D_need_clock_set : Def P w K mg base "need_clock_set" 5 ["hours", "value"] (spOf K false sp_need_clock_set)) (D_depth_in : Def P w K mg base "depth_in" 1 ["table"] (spOf K false sp_depth_in)) (D_table_in : Def P w K mg base "table_in" 1 ["hours", "steps"] (spOf K false sp_table_in)) (D_both_of : Def P w K mg base "both_of" 1 ["hours", "members"] (spOf K false sp_both_of)) {f : Addr} {fd : FuncData} (F : Fun K "both_depth" "both_depth" st_both_depth f fd) (m : mg "both_depth" = some (.ref f)) (hb : Binds K fd ["hours", "one"] []) : Def P w K mg base "both_depth" 6 ["hours", "one"] (spOf K false sp_both_depth) :=
  mk_def F m hb (fn_rule (φ := b_both_depth) F sc_both_depth len_both_depth (by decide) (fun C cdv A outer s H E hCK hh hr xc => (b_cons (st_exp (s_callD xc D_need_clock_set (hr.mono (by decide)) rfl (a_cons (s_var 0) (a_cons (s_var 1) a_nil))))
  (b_one (st_ret (s_callD xc D_depth_in (hr.mono (by decide)) rfl (a_cons (s_callD xc D_table_in (hr.mono (by decide)) rfl (a_cons (s_var 0) (a_cons (s_callD xc D_both_of (hr.mono (by decide)) rfl (a_cons (s_var 0) (a_cons (s_var 1) a_nil))) a_nil))) a_nil)))))) ok_both_depth)
theorem der__law_perfect_right (m_range : mg "range" = none) (m_len : mg "len" = none) (m_tuple : mg "tuple" = none) (D_perfect_clock : Def P w K mg base "perfect_clock" 4 ["many"] (spOf K false sp_perfect_clock)) (D_both_table : Def P w K mg base "both_table" 6 ["hours", "one"] (spOf K false sp_both_table)) (D__law_like : Def P w K mg base "_law_like" 9 ["one", "other"] (spOf K false sp__law_like)) (D__law_dials : Def P w K mg base "_law_dials" 1 ["hours", "steps"] (spOf K false sp__law_dials)) (D_both_depth : Def P w K mg base "both_depth" 6 ["hours", "one"] (spOf K false sp_both_depth)) {f : Addr} {fd : FuncData} (F : Fun K "_law_perfect_right" "_law_perfect_right" st__law_perfect_right f fd) (m : mg "_law_perfect_right" = some (.ref f)) (hb : Binds K fd ["size"] []) : Def P w K mg base "_law_perfect_right" 10 ["size"] (spOf K false sp__law_perfect_right) :=
  mk_def F m hb (fn_rule (φ := b__law_perfect_right) F sc__law_perfect_right len__law_perfect_right (by decide) (fun C cdv A outer s H E hCK hh hr xc => (b_cons (st_asg (s_callD xc D_perfect_clock (hr.mono (by decide)) rfl (a_cons (s_var 0) a_nil)) (g_tup xc (g_cons (g_name xc 1) (g_cons (g_name xc 2) g_nil))))
  (b_cons (st_if (t_w (w_or (t_cmp (xc.hK ▸ op_neD xc.un) snd_ne (s_var 1) (s_bin (xc.hK ▸ or_add) snd_add (s_bin (xc.hK ▸ or_add) snd_add (s_bin (or_mul) snd_mul (s_bin (or_mul) snd_mul s_int (s_var 0)) (s_var 0)) (s_bin (or_mul) snd_mul s_int (s_var 0))) s_int) (nomark _)) (w_or1 (t_cmp (xc.hK ▸ op_neD xc.un) snd_ne (s_var 2) (s_tup (a_cons (s_var 0) (a_cons (s_bin (xc.hK ▸ or_add) snd_add (s_var 0) s_int) a_nil))) (nomark _))))) (b_one (st_ret s_bl)) b_nil)
  (b_cons (st_set xc 3 false (s_callD xc D_both_table (hr.mono (by decide)) rfl (a_cons (s_var 1) (a_cons (s_var 2) a_nil))))
  (b_cons (st_setcX xc 4 false [("far", 6)] (i_rng1 rfl m_range (s_bin (xc.hK ▸ or_add) snd_add (s_var 0) s_int)) (by kernel_rfl) (fun s H Ca cl fp xc => (g_name xc 6)) (by decide) (fun s H Ca cl fp xc => c_nil) (fun s H Ca cl fp xc => (s_b1 (xc.hK ▸ call_len_seq) snd_len rfl m_len (by decide +kernel) (s_compX xc [("depth", 5)] (i_seq xc (s_var 3)) (by kernel_rfl) (fun s H Ca cl fp xc => (g_name xc 5)) (by decide) (fun s H Ca cl fp xc => (c_one (t_cmp (xc.hK ▸ op_eqD xc.un) snd_eq (s_var 5) (s_var 6) (nomark _)))) (fun s H Ca cl fp xc => s_int)))))
  (b_cons (st_if (t_w (w_or (t_cmp (xc.hK ▸ op_neD xc.un) snd_ne (s_var 4) (s_bin (xc.hK ▸ or_add) snd_add (s_lst (a_cons s_int a_nil)) (s_compX xc [("far", 6)] (i_rng2 rfl m_range s_int (s_bin (xc.hK ▸ or_add) snd_add (s_var 0) s_int)) (by kernel_rfl) (fun s H Ca cl fp xc => (g_name xc 6)) (by decide) (fun s H Ca cl fp xc => c_nil) (fun s H Ca cl fp xc => (s_bin (or_mul) snd_mul s_int (s_var 6))))) (nomark _)) (w_or1 (t_not (t_tr xc (s_callD xc D__law_like (hr.mono (by decide)) rfl (a_cons (s_var 3) (a_cons (s_ty1 (xc.hK ▸ call_tuple_of) snd_tuple rfl m_tuple (by decide +kernel) (s_callD xc D__law_dials (hr.mono (by decide)) rfl (a_cons (s_var 1) (a_cons (s_lst (a_cons (s_var 0) (a_cons (s_bin (xc.hK ▸ or_add) snd_add (s_var 0) s_int) (a_cons (s_bin (or_sub) snd_sub (s_var 1) (s_var 0)) (a_cons (s_bin (or_sub) snd_sub (s_bin (or_sub) snd_sub (s_var 1) (s_var 0)) s_int) a_nil))))) a_nil)))) a_nil)))))))) (b_one (st_ret s_bl)) b_nil)
  (b_one (st_ret (s_cmp (xc.hK ▸ op_eqD xc.un) snd_eq (s_callD xc D_both_depth (hr.mono (by decide)) rfl (a_cons (s_var 1) (a_cons (s_var 2) a_nil))) (s_var 0) (nomark _)))))))))) ok__law_perfect_right)
theorem der_greatest_in_depth (D_pair_in : Def P w K mg base "pair_in" 2 ["hours", "many"] (spOf K false sp_pair_in)) {f : Addr} {fd : FuncData} (F : Fun K "greatest_in_depth" "greatest_in_depth" st_greatest_in_depth f fd) (m : mg "greatest_in_depth" = some (.ref f)) (hb : Binds K fd ["many"] []) : Def P w K mg base "greatest_in_depth" 3 ["many"] (spOf K false sp_greatest_in_depth) :=
  mk_def F m hb (fn_rule (φ := b_greatest_in_depth) F sc_greatest_in_depth len_greatest_in_depth (by decide) (fun C cdv A outer s H E hCK hh hr xc => (b_cons (st_set xc 1 false (s_bin (or_div) snd_div (s_bin (or_mul) snd_mul (s_bin (xc.hK ▸ or_add) snd_add (s_var 0) s_int) (s_bin (xc.hK ▸ or_add) snd_add (s_var 0) s_int)) s_int))
  (b_cons (st_while PassesOwn.never (t_cmp (op_isN) snd_isN (s_callD xc D_pair_in (hr.mono (by decide)) rfl (a_cons (s_var 1) (a_cons (s_var 0) a_nil))) s_non (nomark _)) (b_one (st_set xc 1 false (s_bin (or_sub) snd_sub (s_var 1) s_int))))
  (b_one (st_ret (s_var 1)))))) ok_greatest_in_depth)
theorem der_greatest_clock {t_MOST_DEPTH : Tok} (c_MOST_DEPTH : mg "MOST_DEPTH" = some (.int 8 t_MOST_DEPTH)) (D_need_depth : Def P w K mg base "need_depth" 3 ["value", "most"] (spOf K false sp_need_depth)) (D_greatest_in_depth : Def P w K mg base "greatest_in_depth" 3 ["many"] (spOf K false sp_greatest_in_depth)) {f : Addr} {fd : FuncData} (F : Fun K "greatest_clock" "greatest_clock" st_greatest_clock f fd) (m : mg "greatest_clock" = some (.ref f)) (hb : Binds K fd ["many"] []) : Def P w K mg base "greatest_clock" 4 ["many"] (spOf K false sp_greatest_clock) :=
  mk_def F m hb (fn_rule (φ := b_greatest_clock) F sc_greatest_clock len_greatest_clock (by decide) (fun C cdv A outer s H E hCK hh hr xc => (b_cons (st_exp (s_callD xc D_need_depth (hr.mono (by decide)) rfl (a_cons (s_var 0) (a_cons (s_gint rfl c_MOST_DEPTH) a_nil))))
  (b_one (st_ret (s_callD xc D_greatest_in_depth (hr.mono (by decide)) rfl (a_cons (s_var 0) a_nil)))))) ok_greatest_clock)
theorem der_law (m_min : mg "min" = none) (D__law_cup : Def P w K mg base "_law_cup" 1 ["script"] (spCup K)) (D__law_roll : Def P w K mg base "_law_roll" 1 ["cup", "many"] (spOf K true sp__law_roll)) (D__law_two_right : Def P w K mg base "_law_two_right" 7 ["hours", "size"] (spOf K false sp__law_two_right)) (D__law_perfect_right : Def P w K mg base "_law_perfect_right" 10 ["size"] (spOf K false sp__law_perfect_right)) (D_greatest_clock : Def P w K mg base "greatest_clock" 4 ["many"] (spOf K false sp_greatest_clock)) (D_two_steps : Def P w K mg base "two_steps" 5 ["hours", "many"] (spOf K false sp_two_steps)) (D__law_depth : Def P w K mg base "_law_depth" 2 ["hours", "steps"] (spOf K false sp__law_depth)) (D__law_like : Def P w K mg base "_law_like" 9 ["one", "other"] (spOf K false sp__law_like)) (D_clock_depth : Def P w K mg base "clock_depth" 6 ["hours", "one"] (spOf K false sp_clock_depth)) (D_perfect_clock : Def P w K mg base "perfect_clock" 4 ["many"] (spOf K false sp_perfect_clock)) {f : Addr} {fd : FuncData} (F : Fun K "law" "law" st_law f fd) : FnOk P w K mg base CX0 11 f fd ["script"] (spLaw K) :=
  law_rule F sc_law (by decide) (fun cdv A outer s H E hh hr hxc => have hnd := sc_law.nd; have xc0 := hxc ⟨K, fun _ => none, noW⟩ rfl; (l_cons (fun C hC => have xc := hxc C hC; (st_if (t_w (w_or (t_not (t_tr xc (s_callD xc D__law_like (hr.mono (by decide)) rfl (a_cons (s_bin (xc.hK ▸ or_add) snd_add (s_compX xc [("size", 5)] (i_seq xc (s_tup (a_cons s_int (a_cons s_int (a_cons s_int (a_cons s_int a_nil)))))) (by kernel_rfl) (fun s H Ca cl fp xc => (g_name xc 5)) (by decide) (fun s H Ca cl fp xc => c_nil) (fun s H Ca cl fp xc => (s_callD xc D_greatest_clock (hr.mono (by decide)) rfl (a_cons (s_var 5) a_nil)))) (s_lst (a_cons (s_callD xc D_perfect_clock (hr.mono (by decide)) rfl (a_cons s_int a_nil)) a_nil))) (a_cons (s_lst (a_cons s_int (a_cons s_int (a_cons s_int (a_cons s_int (a_cons (s_tup (a_cons s_int (a_cons (s_tup (a_cons s_int (a_cons s_int a_nil))) a_nil))) a_nil)))))) a_nil))))) (w_or1 (t_cmp (op_isN) snd_isN (s_callD xc D_two_steps (hr.mono (by decide)) rfl (a_cons s_int (a_cons s_int a_nil))) s_non (nomark _))))) (b_one (st_ret s_bl)) b_nil))
  (l_cons (fun C hC => have xc := hxc C hC; (st_set xc 1 false (s_lst (a_cons (s_callD xc D_two_steps (hr.mono (by decide)) rfl (a_cons s_int (a_cons s_int a_nil))) (a_cons (s_callD xc D_clock_depth (hr.mono (by decide)) rfl (a_cons s_int (a_cons (s_callD xc D_two_steps (hr.mono (by decide)) rfl (a_cons s_int (a_cons s_int a_nil))) a_nil))) (a_cons (s_callD xc D_greatest_clock (hr.mono (by decide)) rfl (a_cons s_int a_nil)) (a_cons (s_callD xc D_greatest_clock (hr.mono (by decide)) rfl (a_cons s_int a_nil)) (a_cons (s_callD xc D_greatest_clock (hr.mono (by decide)) rfl (a_cons s_int a_nil)) (a_cons (s_callD xc D_greatest_clock (hr.mono (by decide)) rfl (a_cons s_int a_nil)) (a_cons (s_callD xc D_perfect_clock (hr.mono (by decide)) rfl (a_cons s_int a_nil)) (a_cons (s_callD xc D_two_steps (hr.mono (by decide)) rfl (a_cons s_int (a_cons s_int a_nil))) a_nil)))))))))))
  (l_cons (fun C hC => have xc := hxc C hC; (st_if (t_not (t_tr xc (s_callD xc D__law_like (hr.mono (by decide)) rfl (a_cons (s_var 1) (a_cons (s_lst (a_cons s_non (a_cons s_int (a_cons s_int (a_cons s_int (a_cons s_int (a_cons s_int (a_cons (s_tup (a_cons s_int (a_cons (s_tup (a_cons s_int (a_cons s_int a_nil))) a_nil))) (a_cons s_non a_nil))))))))) a_nil))))) (b_one (st_ret s_bl)) b_nil))
  (l_newD 2 0 xc0.calm hnd (by decide) (by decide : 0 < 7) D__law_cup (hr.mono (by decide)) rfl (l_rest fun C hC => have xc := hxc C hC;
  (b_cons (st_for xc PassesOwn.never (i_seq xc (s_tup (a_cons s_int (a_cons s_int (a_cons s_int a_nil))))) (g_name xc 3) (b_cons (st_set xc 4 false (s_bin (xc.hK ▸ or_add) snd_add s_int (s_callCD xc 2 D__law_roll (hr.mono (by decide)) rfl (a_cons (s_var 3) a_nil))))
  (b_one (st_if (t_not (t_tr xc (s_callD xc D__law_two_right (hr.mono (by decide)) rfl (a_cons (s_var 4) (a_cons (s_bin (xc.hK ▸ or_add) snd_add s_int (s_callCD xc 2 D__law_roll (hr.mono (by decide)) rfl (a_cons (s_b2 (call_min2 xc.calm) snd_min2 (by rfl) m_min (by decide +kernel) (s_var 4) s_int) a_nil))) a_nil))))) (b_one (st_ret s_bl)) b_nil))))
  (b_cons (st_if (t_w (w_or (t_not (t_tr xc (s_callD xc D__law_perfect_right (hr.mono (by decide)) rfl (a_cons (s_bin (xc.hK ▸ or_add) snd_add s_int (s_callCD xc 2 D__law_roll (hr.mono (by decide)) rfl (a_cons s_int a_nil))) a_nil)))) (w_or1 (t_w (w_and (t_cmp (xc.hK ▸ op_eqD xc.un) snd_eq (s_callCD xc 2 D__law_roll (hr.mono (by decide)) rfl (a_cons s_int a_nil)) s_int (nomark _)) (w_and1 (t_not (t_tr xc (s_callD xc D__law_two_right (hr.mono (by decide)) rfl (a_cons (s_bin (xc.hK ▸ or_add) snd_add s_int (s_callCD xc 2 D__law_roll (hr.mono (by decide)) rfl (a_cons s_int a_nil))) (a_cons (s_bin (xc.hK ▸ or_add) snd_add s_int (s_callCD xc 2 D__law_roll (hr.mono (by decide)) rfl (a_cons s_int a_nil))) a_nil))))))))))) (b_one (st_ret s_bl)) b_nil)
  (b_cons (st_set xc 5 false (s_if (t_cmp (op_gt) snd_gt (s_callCD xc 2 D__law_roll (hr.mono (by decide)) rfl (a_cons s_int a_nil)) s_int (nomark _)) (s_bin (xc.hK ▸ or_add) snd_add s_int (s_callCD xc 2 D__law_roll (hr.mono (by decide)) rfl (a_cons s_int a_nil))) (s_bin (xc.hK ▸ or_add) snd_add s_int (s_callCD xc 2 D__law_roll (hr.mono (by decide)) rfl (a_cons s_int a_nil)))))
  (b_cons (st_set xc 3 false (s_callD xc D_greatest_clock (hr.mono (by decide)) rfl (a_cons (s_var 5) a_nil)))
  (b_cons (st_if (t_cmp (xc.hK ▸ op_neD xc.un) snd_ne (s_var 3) (s_bin (xc.hK ▸ or_add) snd_add (s_bin (or_div) snd_div (s_bin (or_mul) snd_mul (s_var 5) (s_bin (xc.hK ▸ or_add) snd_add (s_var 5) s_int)) s_int) s_int) (nomark _)) (b_one (st_ret s_bl)) b_nil)
  (b_cons (st_set xc 6 false (s_callD xc D_two_steps (hr.mono (by decide)) rfl (a_cons (s_var 3) (a_cons (s_var 5) a_nil))))
  (b_one (st_ret (s_and (s_cmp (op_notN) snd_notN (s_var 6) s_non (nomark _)) (s_and (s_cmp (xc.hK ▸ op_eqD xc.un) snd_eq (s_callD xc D__law_depth (hr.mono (by decide)) rfl (a_cons (s_var 3) (a_cons (s_var 6) a_nil))) (s_var 5) (nomark _)) (s_one (s_cmp (op_isN) snd_isN (s_callD xc D_two_steps (hr.mono (by decide)) rfl (a_cons (s_bin (xc.hK ▸ or_add) snd_add (s_var 3) s_int) (a_cons (s_var 5) a_nil))) s_non (nomark _))))))))))))))))))) ok_law
end
end K60

set_option Elab.async false
set_option pp.maxSteps 150
set_option pp.deepTerms false
set_option linter.all false
set_option maxRecDepth 100000
set_option maxHeartbeats 4000000
namespace K60
open PySem L2 RZ PL
theorem all_mk {l : PySem.W.OpenLaw} {w : World} {K : PySem.W.Frag} {h : Heap} {mg : Str → Option Value} {fa : Addr} {f1 f2 f3 f4 f5 f6 f7 f8 f9 f10 f11 f12 f13 f14 f15 f16 f17 f18 f19 f20 f21 f22 f23 f24 f25 f26 f27 f28 f29 f30 : Addr} (X : K.In h) (G : h.Ns mainGlobals mg) (hfa : mg "law" = some (.ref fa))
    {od1 an1 od2 an2 od3 an3 od4 an4 od5 an5 od6 an6 od7 an7 od8 an8 od9 an9 od10 an10 od11 an11 od12 an12 od13 an13 od14 an14 od15 an15 od16 an16 od17 an17 od18 an18 od19 an19 od20 an20 od21 an21 od22 an22 od23 an23 od24 an24 od25 an25 od26 an26 od27 an27 od28 an28 od29 an29 od30 an30 : Option Addr} {sl1 sl2 sl3 sl4 sl5 sl6 sl7 sl8 sl9 sl10 sl11 sl12 sl13 sl14 sl15 sl16 sl17 sl18 sl19 sl20 sl21 sl22 sl23 sl24 sl25 sl26 sl27 sl28 sl29 sl30 : Array (Option Value)} {oc1 kV1 dc1 pm1 cd1 ct1 oc2 kV2 dc2 pm2 cd2 ct2 oc3 kV3 dc3 pm3 cd3 ct3 oc4 kV4 dc4 pm4 cd4 ct4 oc5 kV5 dc5 pm5 cd5 ct5 oc6 kV6 dc6 pm6 cd6 ct6 oc7 kV7 dc7 pm7 cd7 ct7 oc8 kV8 dc8 pm8 cd8 ct8 oc9 kV9 dc9 pm9 cd9 ct9 oc10 kV10 dc10 pm10 cd10 ct10 oc11 kV11 dc11 pm11 cd11 ct11 oc12 kV12 dc12 pm12 cd12 ct12 oc13 kV13 dc13 pm13 cd13 ct13 oc14 kV14 dc14 pm14 cd14 ct14 oc15 kV15 dc15 pm15 cd15 ct15 oc16 kV16 dc16 pm16 cd16 ct16 oc17 kV17 dc17 pm17 cd17 ct17 oc18 kV18 dc18 pm18 cd18 ct18 oc19 kV19 dc19 pm19 cd19 ct19 oc20 kV20 dc20 pm20 cd20 ct20 oc21 kV21 dc21 pm21 cd21 ct21 oc22 kV22 dc22 pm22 cd22 ct22 oc23 kV23 dc23 pm23 cd23 ct23 oc24 kV24 dc24 pm24 cd24 ct24 oc25 kV25 dc25 pm25 cd25 ct25 oc26 kV26 dc26 pm26 cd26 ct26 oc27 kV27 dc27 pm27 cd27 ct27 oc28 kV28 dc28 pm28 cd28 ct28 oc29 kV29 dc29 pm29 cd29 ct29 oc30 kV30 dc30 pm30 cd30 ct30 : Value} {t_MOST t_SEARCHED t_MOST_BOTH t_MOST_DEPTH : Tok}
    (a1 : PySem.W.nsIn K mainGlobals "_law_cup" = some (some (.ref f1))) (l1 : K.lookup f1 = some ⟨oc1, od1, .func (PySem.W.fnOf "_law_cup" "_law_cup" (defArgs st__law_cup) (defBody st__law_cup) (defScope st__law_cup) .none kV1 dc1 pm1 an1 cd1 ct1), sl1⟩) (c1 : PySem.W.codeIn K cd1 "_law_cup" = true) (k1 : PySem.W.keepIn K (.ref f1) = true)
    (a2 : PySem.W.nsIn K mainGlobals "_law_roll" = some (some (.ref f2))) (l2 : K.lookup f2 = some ⟨oc2, od2, .func (PySem.W.fnOf "_law_roll" "_law_roll" (defArgs st__law_roll) (defBody st__law_roll) (defScope st__law_roll) .none kV2 dc2 pm2 an2 cd2 ct2), sl2⟩) (c2 : PySem.W.codeIn K cd2 "_law_roll" = true) (k2 : PySem.W.keepIn K (.ref f2) = true)
    (a3 : PySem.W.nsIn K mainGlobals "_law_dials" = some (some (.ref f3))) (l3 : K.lookup f3 = some ⟨oc3, od3, .func (PySem.W.fnOf "_law_dials" "_law_dials" (defArgs st__law_dials) (defBody st__law_dials) (defScope st__law_dials) .none kV3 dc3 pm3 an3 cd3 ct3), sl3⟩) (c3 : PySem.W.codeIn K cd3 "_law_dials" = true) (k3 : PySem.W.keepIn K (.ref f3) = true)
    (a4 : PySem.W.nsIn K mainGlobals "_law_depth" = some (some (.ref f4))) (l4 : K.lookup f4 = some ⟨oc4, od4, .func (PySem.W.fnOf "_law_depth" "_law_depth" (defArgs st__law_depth) (defBody st__law_depth) (defScope st__law_depth) .none kV4 dc4 pm4 an4 cd4 ct4), sl4⟩) (c4 : PySem.W.codeIn K cd4 "_law_depth" = true) (k4 : PySem.W.keepIn K (.ref f4) = true)
    (a5 : PySem.W.nsIn K mainGlobals "is_integer" = some (some (.ref f5))) (l5 : K.lookup f5 = some ⟨oc5, od5, .func (PySem.W.fnOf "is_integer" "is_integer" (defArgs st_is_integer) (defBody st_is_integer) (defScope st_is_integer) .none kV5 dc5 pm5 an5 cd5 ct5), sl5⟩) (c5 : PySem.W.codeIn K cd5 "is_integer" = true) (k5 : PySem.W.keepIn K (.ref f5) = true)
    (a6 : PySem.W.nsIn K mainGlobals "is_whole" = some (some (.ref f6))) (l6 : K.lookup f6 = some ⟨oc6, od6, .func (PySem.W.fnOf "is_whole" "is_whole" (defArgs st_is_whole) (defBody st_is_whole) (defScope st_is_whole) .none kV6 dc6 pm6 an6 cd6 ct6), sl6⟩) (c6 : PySem.W.codeIn K cd6 "is_whole" = true) (k6 : PySem.W.keepIn K (.ref f6) = true)
    (a7 : PySem.W.nsIn K mainGlobals "fits_clock" = some (some (.ref f7))) (l7 : K.lookup f7 = some ⟨oc7, od7, .func (PySem.W.fnOf "fits_clock" "fits_clock" (defArgs st_fits_clock) (defBody st_fits_clock) (defScope st_fits_clock) .none kV7 dc7 pm7 an7 cd7 ct7), sl7⟩) (c7 : PySem.W.codeIn K cd7 "fits_clock" = true) (k7 : PySem.W.keepIn K (.ref f7) = true)
    (a8 : PySem.W.nsIn K mainGlobals "need_clock" = some (some (.ref f8))) (l8 : K.lookup f8 = some ⟨oc8, od8, .func (PySem.W.fnOf "need_clock" "need_clock" (defArgs st_need_clock) (defBody st_need_clock) (defScope st_need_clock) .none kV8 dc8 pm8 an8 cd8 ct8), sl8⟩) (c8 : PySem.W.codeIn K cd8 "need_clock" = true) (k8 : PySem.W.keepIn K (.ref f8) = true)
    (a9 : PySem.W.nsIn K mainGlobals "need_depth" = some (some (.ref f9))) (l9 : K.lookup f9 = some ⟨oc9, od9, .func (PySem.W.fnOf "need_depth" "need_depth" (defArgs st_need_depth) (defBody st_need_depth) (defScope st_need_depth) .none kV9 dc9 pm9 an9 cd9 ct9), sl9⟩) (c9 : PySem.W.codeIn K cd9 "need_depth" = true) (k9 : PySem.W.keepIn K (.ref f9) = true)
    (a10 : PySem.W.nsIn K mainGlobals "depth_in" = some (some (.ref f10))) (l10 : K.lookup f10 = some ⟨oc10, od10, .func (PySem.W.fnOf "depth_in" "depth_in" (defArgs st_depth_in) (defBody st_depth_in) (defScope st_depth_in) .none kV10 dc10 pm10 an10 cd10 ct10), sl10⟩) (c10 : PySem.W.codeIn K cd10 "depth_in" = true) (k10 : PySem.W.keepIn K (.ref f10) = true)
    (a11 : PySem.W.nsIn K mainGlobals "table_in" = some (some (.ref f11))) (l11 : K.lookup f11 = some ⟨oc11, od11, .func (PySem.W.fnOf "table_in" "table_in" (defArgs st_table_in) (defBody st_table_in) (defScope st_table_in) .none kV11 dc11 pm11 an11 cd11 ct11), sl11⟩) (c11 : PySem.W.codeIn K cd11 "table_in" = true) (k11 : PySem.W.keepIn K (.ref f11) = true)
    (a12 : PySem.W.nsIn K mainGlobals "pair_in" = some (some (.ref f12))) (l12 : K.lookup f12 = some ⟨oc12, od12, .func (PySem.W.fnOf "pair_in" "pair_in" (defArgs st_pair_in) (defBody st_pair_in) (defScope st_pair_in) .none kV12 dc12 pm12 an12 cd12 ct12), sl12⟩) (c12 : PySem.W.codeIn K cd12 "pair_in" = true) (k12 : PySem.W.keepIn K (.ref f12) = true)
    (a13 : PySem.W.nsIn K mainGlobals "two_steps" = some (some (.ref f13))) (l13 : K.lookup f13 = some ⟨oc13, od13, .func (PySem.W.fnOf "two_steps" "two_steps" (defArgs st_two_steps) (defBody st_two_steps) (defScope st_two_steps) .none kV13 dc13 pm13 an13 cd13 ct13), sl13⟩) (c13 : PySem.W.codeIn K cd13 "two_steps" = true) (k13 : PySem.W.keepIn K (.ref f13) = true)
    (a14 : PySem.W.nsIn K mainGlobals "is_rising" = some (some (.ref f14))) (l14 : K.lookup f14 = some ⟨oc14, od14, .func (PySem.W.fnOf "is_rising" "is_rising" (defArgs st_is_rising) (defBody st_is_rising) (defScope st_is_rising) .none kV14 dc14 pm14 an14 cd14 ct14), sl14⟩) (c14 : PySem.W.codeIn K cd14 "is_rising" = true) (k14 : PySem.W.keepIn K (.ref f14) = true)
    (a15 : PySem.W.nsIn K mainGlobals "are_members" = some (some (.ref f15))) (l15 : K.lookup f15 = some ⟨oc15, od15, .func (PySem.W.fnOf "are_members" "are_members" (defArgs st_are_members) (defBody st_are_members) (defScope st_are_members) .none kV15 dc15 pm15 an15 cd15 ct15), sl15⟩) (c15 : PySem.W.codeIn K cd15 "are_members" = true) (k15 : PySem.W.keepIn K (.ref f15) = true)
    (a16 : PySem.W.nsIn K mainGlobals "fits_clock_set" = some (some (.ref f16))) (l16 : K.lookup f16 = some ⟨oc16, od16, .func (PySem.W.fnOf "fits_clock_set" "fits_clock_set" (defArgs st_fits_clock_set) (defBody st_fits_clock_set) (defScope st_fits_clock_set) .none kV16 dc16 pm16 an16 cd16 ct16), sl16⟩) (c16 : PySem.W.codeIn K cd16 "fits_clock_set" = true) (k16 : PySem.W.keepIn K (.ref f16) = true)
    (a17 : PySem.W.nsIn K mainGlobals "is_clock_set" = some (some (.ref f17))) (l17 : K.lookup f17 = some ⟨oc17, od17, .func (PySem.W.fnOf "is_clock_set" "is_clock_set" (defArgs st_is_clock_set) (defBody st_is_clock_set) (defScope st_is_clock_set) .none kV17 dc17 pm17 an17 cd17 ct17), sl17⟩) (c17 : PySem.W.codeIn K cd17 "is_clock_set" = true) (k17 : PySem.W.keepIn K (.ref f17) = true)
    (a18 : PySem.W.nsIn K mainGlobals "need_clock_set" = some (some (.ref f18))) (l18 : K.lookup f18 = some ⟨oc18, od18, .func (PySem.W.fnOf "need_clock_set" "need_clock_set" (defArgs st_need_clock_set) (defBody st_need_clock_set) (defScope st_need_clock_set) .none kV18 dc18 pm18 an18 cd18 ct18), sl18⟩) (c18 : PySem.W.codeIn K cd18 "need_clock_set" = true) (k18 : PySem.W.keepIn K (.ref f18) = true)
    (a19 : PySem.W.nsIn K mainGlobals "clock_depth" = some (some (.ref f19))) (l19 : K.lookup f19 = some ⟨oc19, od19, .func (PySem.W.fnOf "clock_depth" "clock_depth" (defArgs st_clock_depth) (defBody st_clock_depth) (defScope st_clock_depth) .none kV19 dc19 pm19 an19 cd19 ct19), sl19⟩) (c19 : PySem.W.codeIn K cd19 "clock_depth" = true) (k19 : PySem.W.keepIn K (.ref f19) = true)
    (a20 : PySem.W.nsIn K mainGlobals "_law_two_right" = some (some (.ref f20))) (l20 : K.lookup f20 = some ⟨oc20, od20, .func (PySem.W.fnOf "_law_two_right" "_law_two_right" (defArgs st__law_two_right) (defBody st__law_two_right) (defScope st__law_two_right) .none kV20 dc20 pm20 an20 cd20 ct20), sl20⟩) (c20 : PySem.W.codeIn K cd20 "_law_two_right" = true) (k20 : PySem.W.keepIn K (.ref f20) = true)
    (a21 : PySem.W.nsIn K mainGlobals "perfect_clock" = some (some (.ref f21))) (l21 : K.lookup f21 = some ⟨oc21, od21, .func (PySem.W.fnOf "perfect_clock" "perfect_clock" (defArgs st_perfect_clock) (defBody st_perfect_clock) (defScope st_perfect_clock) .none kV21 dc21 pm21 an21 cd21 ct21), sl21⟩) (c21 : PySem.W.codeIn K cd21 "perfect_clock" = true) (k21 : PySem.W.keepIn K (.ref f21) = true)
    (a22 : PySem.W.nsIn K mainGlobals "both_of" = some (some (.ref f22))) (l22 : K.lookup f22 = some ⟨oc22, od22, .func (PySem.W.fnOf "both_of" "both_of" (defArgs st_both_of) (defBody st_both_of) (defScope st_both_of) .none kV22 dc22 pm22 an22 cd22 ct22), sl22⟩) (c22 : PySem.W.codeIn K cd22 "both_of" = true) (k22 : PySem.W.keepIn K (.ref f22) = true)
    (a23 : PySem.W.nsIn K mainGlobals "both_table" = some (some (.ref f23))) (l23 : K.lookup f23 = some ⟨oc23, od23, .func (PySem.W.fnOf "both_table" "both_table" (defArgs st_both_table) (defBody st_both_table) (defScope st_both_table) .none kV23 dc23 pm23 an23 cd23 ct23), sl23⟩) (c23 : PySem.W.codeIn K cd23 "both_table" = true) (k23 : PySem.W.keepIn K (.ref f23) = true)
    (a24 : PySem.W.nsIn K mainGlobals "_law_sort" = some (some (.ref f24))) (l24 : K.lookup f24 = some ⟨oc24, od24, .func (PySem.W.fnOf "_law_sort" "_law_sort" (defArgs st__law_sort) (defBody st__law_sort) (defScope st__law_sort) .none kV24 dc24 pm24 an24 cd24 ct24), sl24⟩) (c24 : PySem.W.codeIn K cd24 "_law_sort" = true) (k24 : PySem.W.keepIn K (.ref f24) = true)
    (a25 : PySem.W.nsIn K mainGlobals "_law_like" = some (some (.ref f25))) (l25 : K.lookup f25 = some ⟨oc25, od25, .func (PySem.W.fnOf "_law_like" "_law_like" (defArgs st__law_like) (defBody st__law_like) (defScope st__law_like) .none kV25 dc25 pm25 an25 cd25 ct25), sl25⟩) (c25 : PySem.W.codeIn K cd25 "_law_like" = true) (k25 : PySem.W.keepIn K (.ref f25) = true)
    (a26 : PySem.W.nsIn K mainGlobals "both_depth" = some (some (.ref f26))) (l26 : K.lookup f26 = some ⟨oc26, od26, .func (PySem.W.fnOf "both_depth" "both_depth" (defArgs st_both_depth) (defBody st_both_depth) (defScope st_both_depth) .none kV26 dc26 pm26 an26 cd26 ct26), sl26⟩) (c26 : PySem.W.codeIn K cd26 "both_depth" = true) (k26 : PySem.W.keepIn K (.ref f26) = true)
    (a27 : PySem.W.nsIn K mainGlobals "_law_perfect_right" = some (some (.ref f27))) (l27 : K.lookup f27 = some ⟨oc27, od27, .func (PySem.W.fnOf "_law_perfect_right" "_law_perfect_right" (defArgs st__law_perfect_right) (defBody st__law_perfect_right) (defScope st__law_perfect_right) .none kV27 dc27 pm27 an27 cd27 ct27), sl27⟩) (c27 : PySem.W.codeIn K cd27 "_law_perfect_right" = true) (k27 : PySem.W.keepIn K (.ref f27) = true)
    (a28 : PySem.W.nsIn K mainGlobals "greatest_in_depth" = some (some (.ref f28))) (l28 : K.lookup f28 = some ⟨oc28, od28, .func (PySem.W.fnOf "greatest_in_depth" "greatest_in_depth" (defArgs st_greatest_in_depth) (defBody st_greatest_in_depth) (defScope st_greatest_in_depth) .none kV28 dc28 pm28 an28 cd28 ct28), sl28⟩) (c28 : PySem.W.codeIn K cd28 "greatest_in_depth" = true) (k28 : PySem.W.keepIn K (.ref f28) = true)
    (a29 : PySem.W.nsIn K mainGlobals "greatest_clock" = some (some (.ref f29))) (l29 : K.lookup f29 = some ⟨oc29, od29, .func (PySem.W.fnOf "greatest_clock" "greatest_clock" (defArgs st_greatest_clock) (defBody st_greatest_clock) (defScope st_greatest_clock) .none kV29 dc29 pm29 an29 cd29 ct29), sl29⟩) (c29 : PySem.W.codeIn K cd29 "greatest_clock" = true) (k29 : PySem.W.keepIn K (.ref f29) = true)
    (a30 : PySem.W.nsIn K mainGlobals "law" = some (some (.ref f30))) (l30 : K.lookup f30 = some ⟨oc30, od30, .func (PySem.W.fnOf "law" "law" (defArgs st_law) (defBody st_law) (defScope st_law) .none kV30 dc30 pm30 an30 cd30 ct30), sl30⟩) (c30 : PySem.W.codeIn K cd30 "law" = true) (k30 : PySem.W.keepIn K (.ref f30) = true)
    (z0 : PySem.W.nsIn K mainGlobals "list" = some none)
    (z1 : PySem.W.nsIn K mainGlobals "abs" = some none)
    (z2 : PySem.W.nsIn K mainGlobals "int" = some none)
    (z3 : PySem.W.nsIn K mainGlobals "range" = some none)
    (z4 : PySem.W.nsIn K mainGlobals "max" = some none)
    (z5 : PySem.W.nsIn K mainGlobals "isinstance" = some none)
    (z6 : PySem.W.nsIn K mainGlobals "bool" = some none)
    (z7 : PySem.W.nsIn K mainGlobals "zip" = some none)
    (z8 : PySem.W.nsIn K mainGlobals "all" = some none)
    (z9 : PySem.W.nsIn K mainGlobals "tuple" = some none)
    (z10 : PySem.W.nsIn K mainGlobals "len" = some none)
    (z11 : PySem.W.nsIn K mainGlobals "sorted" = some none)
    (z12 : PySem.W.nsIn K mainGlobals "set" = some none)
    (z13 : PySem.W.nsIn K mainGlobals "str" = some none)
    (z14 : PySem.W.nsIn K mainGlobals "min" = some none)
    (y0 : PySem.W.nsIn K mainGlobals "MOST" = some (some (.int 400 t_MOST)))
    (y1 : PySem.W.nsIn K mainGlobals "SEARCHED" = some (some (.int 60 t_SEARCHED)))
    (y2 : PySem.W.nsIn K mainGlobals "MOST_BOTH" = some (some (.int 13 t_MOST_BOTH)))
    (y3 : PySem.W.nsIn K mainGlobals "MOST_DEPTH" = some (some (.int 8 t_MOST_DEPTH)))
    : ∃ fd : FuncData, (∀ (s : Shared) (v : Value), BindsTo s fd ⟨[v], []⟩ [("script", v)]) ∧ ∀ base : Heap, K.In base → base.Ns mainGlobals mg → FnOk l.prog w K mg base CX0 11 fa fd ["script"] (spLaw K) := by
  have e := hfa.symm.trans (PySem.W.mg_of X G a30)
  cases e
  have m_list := PySem.W.mg_none_of X G z0
  have m_abs := PySem.W.mg_none_of X G z1
  have m_int := PySem.W.mg_none_of X G z2
  have m_range := PySem.W.mg_none_of X G z3
  have m_max := PySem.W.mg_none_of X G z4
  have m_isinstance := PySem.W.mg_none_of X G z5
  have m_bool := PySem.W.mg_none_of X G z6
  have m_zip := PySem.W.mg_none_of X G z7
  have m_all := PySem.W.mg_none_of X G z8
  have m_tuple := PySem.W.mg_none_of X G z9
  have m_len := PySem.W.mg_none_of X G z10
  have m_sorted := PySem.W.mg_none_of X G z11
  have m_set := PySem.W.mg_none_of X G z12
  have m_str := PySem.W.mg_none_of X G z13
  have m_min := PySem.W.mg_none_of X G z14
  have c_MOST := PySem.W.mg_of X G y0
  have c_SEARCHED := PySem.W.mg_of X G y1
  have c_MOST_BOTH := PySem.W.mg_of X G y2
  have c_MOST_DEPTH := PySem.W.mg_of X G y3
  refine ⟨PySem.W.fnOf "law" "law" (defArgs st_law) (defBody st_law) (defScope st_law) .none kV30 dc30 pm30 an30 cd30 ct30, fun s v => .of_eq rfl, fun base _ _ => ?_⟩
  have F1 := fun_mk (st := st__law_cup) l1 c1 k1
  have D__law_cup := der__law_cup (P := l.prog) (w := w) (base := base) m_list m_abs m_int F1 (PySem.W.mg_of X G a1) (F1.binds (ps := ["script"]) fun _ _ _ _ _ _ us hl => match us, hl with | [_], _ => rfl)
  have F2 := fun_mk (st := st__law_roll) l2 c2 k2
  have D__law_roll := der__law_roll (P := l.prog) (w := w) (base := base) m_int F2 (PySem.W.mg_of X G a2) (F2.binds (ps := ["cup", "many"]) fun _ _ _ _ _ _ us hl => match us, hl with | [_, _], _ => rfl)
  have F3 := fun_mk (st := st__law_dials) l3 c3 k3
  have D__law_dials := der__law_dials (P := l.prog) (w := w) (base := base) m_range m_int F3 (PySem.W.mg_of X G a3) (F3.binds (ps := ["hours", "steps"]) fun _ _ _ _ _ _ us hl => match us, hl with | [_, _], _ => rfl)
  have F4 := fun_mk (st := st__law_depth) l4 c4 k4
  have D__law_depth := der__law_depth (P := l.prog) (w := w) (base := base) m_max D__law_dials F4 (PySem.W.mg_of X G a4) (F4.binds (ps := ["hours", "steps"]) fun _ _ _ _ _ _ us hl => match us, hl with | [_, _], _ => rfl)
  have F5 := fun_mk (st := st_is_integer) l5 c5 k5
  have D_is_integer := der_is_integer (P := l.prog) (w := w) (base := base) m_isinstance m_int m_bool F5 (PySem.W.mg_of X G a5) (F5.binds (ps := ["value"]) fun _ _ _ _ _ _ us hl => match us, hl with | [_], _ => rfl)
  have F6 := fun_mk (st := st_is_whole) l6 c6 k6
  have D_is_whole := der_is_whole (P := l.prog) (w := w) (base := base) D_is_integer F6 (PySem.W.mg_of X G a6) (F6.binds (ps := ["value", "low", "high"]) fun _ _ _ _ _ _ us hl => match us, hl with | [_, _, _], _ => rfl)
  have F7 := fun_mk (st := st_fits_clock) l7 c7 k7
  have D_fits_clock := der_fits_clock (P := l.prog) (w := w) (base := base) c_MOST D_is_whole F7 (PySem.W.mg_of X G a7) (F7.binds (ps := ["value"]) fun _ _ _ _ _ _ us hl => match us, hl with | [_], _ => rfl)
  have F8 := fun_mk (st := st_need_clock) l8 c8 k8
  have D_need_clock := der_need_clock (P := l.prog) (w := w) (base := base) D_fits_clock F8 (PySem.W.mg_of X G a8) (F8.binds (ps := ["value"]) fun _ _ _ _ _ _ us hl => match us, hl with | [_], _ => rfl)
  have F9 := fun_mk (st := st_need_depth) l9 c9 k9
  have D_need_depth := der_need_depth (P := l.prog) (w := w) (base := base) D_is_whole F9 (PySem.W.mg_of X G a9) (F9.binds (ps := ["value", "most"]) fun _ _ _ _ _ _ us hl => match us, hl with | [_, _], _ => rfl)
  have F10 := fun_mk (st := st_depth_in) l10 c10 k10
  have D_depth_in := der_depth_in (P := l.prog) (w := w) (base := base) m_max F10 (PySem.W.mg_of X G a10) (F10.binds (ps := ["table"]) fun _ _ _ _ _ _ us hl => match us, hl with | [_], _ => rfl)
  have F11 := fun_mk (st := st_table_in) l11 c11 k11
  have D_table_in := der_table_in (P := l.prog) (w := w) (base := base)  F11 (PySem.W.mg_of X G a11) (F11.binds (ps := ["hours", "steps"]) fun _ _ _ _ _ _ us hl => match us, hl with | [_, _], _ => rfl)
  have F12 := fun_mk (st := st_pair_in) l12 c12 k12
  have D_pair_in := der_pair_in (P := l.prog) (w := w) (base := base) m_range D_depth_in D_table_in F12 (PySem.W.mg_of X G a12) (F12.binds (ps := ["hours", "many"]) fun _ _ _ _ _ _ us hl => match us, hl with | [_, _], _ => rfl)
  have F13 := fun_mk (st := st_two_steps) l13 c13 k13
  have D_two_steps := der_two_steps (P := l.prog) (w := w) (base := base) c_SEARCHED D_need_clock D_need_depth D_pair_in F13 (PySem.W.mg_of X G a13) (F13.binds (ps := ["hours", "many"]) fun _ _ _ _ _ _ us hl => match us, hl with | [_, _], _ => rfl)
  have F14 := fun_mk (st := st_is_rising) l14 c14 k14
  have D_is_rising := der_is_rising (P := l.prog) (w := w) (base := base) m_zip m_all F14 (PySem.W.mg_of X G a14) (F14.binds (ps := ["things"]) fun _ _ _ _ _ _ us hl => match us, hl with | [_], _ => rfl)
  have F15 := fun_mk (st := st_are_members) l15 c15 k15
  have D_are_members := der_are_members (P := l.prog) (w := w) (base := base) m_isinstance m_tuple m_all D_is_whole D_is_rising F15 (PySem.W.mg_of X G a15) (F15.binds (ps := ["value", "low", "high"]) fun _ _ _ _ _ _ us hl => match us, hl with | [_, _, _], _ => rfl)
  have F16 := fun_mk (st := st_fits_clock_set) l16 c16 k16
  have D_fits_clock_set := der_fits_clock_set (P := l.prog) (w := w) (base := base) D_are_members F16 (PySem.W.mg_of X G a16) (F16.binds (ps := ["hours", "value"]) fun _ _ _ _ _ _ us hl => match us, hl with | [_, _], _ => rfl)
  have F17 := fun_mk (st := st_is_clock_set) l17 c17 k17
  have D_is_clock_set := der_is_clock_set (P := l.prog) (w := w) (base := base) D_need_clock D_fits_clock_set F17 (PySem.W.mg_of X G a17) (F17.binds (ps := ["hours", "value"]) fun _ _ _ _ _ _ us hl => match us, hl with | [_, _], _ => rfl)
  have F18 := fun_mk (st := st_need_clock_set) l18 c18 k18
  have D_need_clock_set := der_need_clock_set (P := l.prog) (w := w) (base := base) D_need_clock D_fits_clock_set F18 (PySem.W.mg_of X G a18) (F18.binds (ps := ["hours", "value"]) fun _ _ _ _ _ _ us hl => match us, hl with | [_, _], _ => rfl)
  have F19 := fun_mk (st := st_clock_depth) l19 c19 k19
  have D_clock_depth := der_clock_depth (P := l.prog) (w := w) (base := base) D_need_clock_set D_depth_in D_table_in F19 (PySem.W.mg_of X G a19) (F19.binds (ps := ["hours", "one"]) fun _ _ _ _ _ _ us hl => match us, hl with | [_, _], _ => rfl)
  have F20 := fun_mk (st := st__law_two_right) l20 c20 k20
  have D__law_two_right := der__law_two_right (P := l.prog) (w := w) (base := base) m_range m_len D__law_depth D_two_steps D_is_clock_set D_clock_depth F20 (PySem.W.mg_of X G a20) (F20.binds (ps := ["hours", "size"]) fun _ _ _ _ _ _ us hl => match us, hl with | [_, _], _ => rfl)
  have F21 := fun_mk (st := st_perfect_clock) l21 c21 k21
  have D_perfect_clock := der_perfect_clock (P := l.prog) (w := w) (base := base) c_MOST_BOTH D_need_depth F21 (PySem.W.mg_of X G a21) (F21.binds (ps := ["many"]) fun _ _ _ _ _ _ us hl => match us, hl with | [_], _ => rfl)
  have F22 := fun_mk (st := st_both_of) l22 c22 k22
  have D_both_of := der_both_of (P := l.prog) (w := w) (base := base) m_sorted m_set F22 (PySem.W.mg_of X G a22) (F22.binds (ps := ["hours", "members"]) fun _ _ _ _ _ _ us hl => match us, hl with | [_, _], _ => rfl)
  have F23 := fun_mk (st := st_both_table) l23 c23 k23
  have D_both_table := der_both_table (P := l.prog) (w := w) (base := base) m_tuple D_need_clock_set D_table_in D_both_of F23 (PySem.W.mg_of X G a23) (F23.binds (ps := ["hours", "one"]) fun _ _ _ _ _ _ us hl => match us, hl with | [_, _], _ => rfl)
  have F24 := fun_mk (st := st__law_sort) l24 c24 k24
  have D__law_sort := der__law_sort (P := l.prog) (w := w) (base := base) m_isinstance m_bool m_int m_str m_tuple m_list F24 (PySem.W.mg_of X G a24) (F24.binds (ps := ["value"]) fun _ _ _ _ _ _ us hl => match us, hl with | [_], _ => rfl)
  have F25 := fun_mk (st := st__law_like) l25 c25 k25
  have D__law_like := der__law_like (P := l.prog) (w := w) (base := base) m_len m_zip D__law_sort F25 (PySem.W.mg_of X G a25) (F25.binds (ps := ["one", "other"]) fun _ _ _ _ _ _ us hl => match us, hl with | [_, _], _ => rfl)
  have F26 := fun_mk (st := st_both_depth) l26 c26 k26
  have D_both_depth := der_both_depth (P := l.prog) (w := w) (base := base) D_need_clock_set D_depth_in D_table_in D_both_of F26 (PySem.W.mg_of X G a26) (F26.binds (ps := ["hours", "one"]) fun _ _ _ _ _ _ us hl => match us, hl with | [_, _], _ => rfl)
  have F27 := fun_mk (st := st__law_perfect_right) l27 c27 k27
  have D__law_perfect_right := der__law_perfect_right (P := l.prog) (w := w) (base := base) m_range m_len m_tuple D_perfect_clock D_both_table D__law_like D__law_dials D_both_depth F27 (PySem.W.mg_of X G a27) (F27.binds (ps := ["size"]) fun _ _ _ _ _ _ us hl => match us, hl with | [_], _ => rfl)
  have F28 := fun_mk (st := st_greatest_in_depth) l28 c28 k28
  have D_greatest_in_depth := der_greatest_in_depth (P := l.prog) (w := w) (base := base) D_pair_in F28 (PySem.W.mg_of X G a28) (F28.binds (ps := ["many"]) fun _ _ _ _ _ _ us hl => match us, hl with | [_], _ => rfl)
  have F29 := fun_mk (st := st_greatest_clock) l29 c29 k29
  have D_greatest_clock := der_greatest_clock (P := l.prog) (w := w) (base := base) c_MOST_DEPTH D_need_depth D_greatest_in_depth F29 (PySem.W.mg_of X G a29) (F29.binds (ps := ["many"]) fun _ _ _ _ _ _ us hl => match us, hl with | [_], _ => rfl)
  have F30 := fun_mk (st := st_law) l30 c30 k30
  exact der_law m_min D__law_cup D__law_roll D__law_two_right D__law_perfect_right D_greatest_clock D_two_steps D__law_depth D__law_like D_clock_depth D_perfect_clock F30
theorem walk {l : PySem.W.OpenLaw} {n : Nat} {q : Program} {loose : List Str} {XP : (Str → Option Value) → Heap → Prop} {YP : World → Heap → Prop} {d : DefRec} {K : Params → PySem.W.Frag} (hn : l.most = some n) (hn2 : n ≤ 1000000) (hdf : d.params.defaults = [])
    (hY : ∀ (w : World) (h : Heap), YP w h → (K w.params).In h)
    (F : ∀ (w : World) (mg : Str → Option Value) (fa : Addr) (h : Heap), (K w.params).In h → h.Ns mainGlobals mg → mg d.name = some (.ref fa) →
      ∃ fd : FuncData, (∀ (s : Shared) (u : Value), BindsTo s fd ⟨[u], []⟩ [("script", u)]) ∧ ∀ base : Heap, (K w.params).In base → base.Ns mainGlobals mg → FnOk l.prog w (K w.params) mg base CX0 11 fa fd ["script"] (spLaw (K w.params))) :
    PySem.W.WalkO q loose XP YP l.row.toRowW d [] (fun f vs => PySem.call f vs) :=
  L2.walk_of (n := n) (k := 11) (x := "script") (CX := fun _ => CX0) (sp := fun w => spLaw (K w.params)) hn (Nat.le_trans hn2 (by decide)) hdf ⟨rfl, by decide, by decide⟩ hY F (fun _ _ a ns hl _ hS => ⟨a, ns, rfl, hS, Nat.le_trans hl hn2, fun _ => rfl⟩) fun _ _ _ _ _ z => z
end K60
open PySem PySem.W PyProof.Rows
set_option maxRecDepth 100000 in
set_option maxHeartbeats 0 in
theorem PySem.Challenge.cw_setsadded_k60_whole_greatest_clocks_for_holds : PySem.Challenge.rw_setsadded_k60_whole_greatest_clocks_for.Holds := by
  w_on; o_law; k_head; (case hw => w_witness2)
  k_fill
  refine K60.walk (l := PySem.Challenge.rw_setsadded_k60_whole_greatest_clocks_for) rfl (by decide) rfl (fun w h Y => PySem.W.kIn_of Y) ?F
  case F =>
    intro w mg fa h KX G hmg
    refine' K60.all_mk KX G hmg ?a1 ?l1 ?c1 ?k1 ?a2 ?l2 ?c2 ?k2 ?a3 ?l3 ?c3 ?k3 ?a4 ?l4 ?c4 ?k4 ?a5 ?l5 ?c5 ?k5 ?a6 ?l6 ?c6 ?k6 ?a7 ?l7 ?c7 ?k7 ?a8 ?l8 ?c8 ?k8 ?a9 ?l9 ?c9 ?k9 ?a10 ?l10 ?c10 ?k10 ?a11 ?l11 ?c11 ?k11 ?a12 ?l12 ?c12 ?k12 ?a13 ?l13 ?c13 ?k13 ?a14 ?l14 ?c14 ?k14 ?a15 ?l15 ?c15 ?k15 ?a16 ?l16 ?c16 ?k16 ?a17 ?l17 ?c17 ?k17 ?a18 ?l18 ?c18 ?k18 ?a19 ?l19 ?c19 ?k19 ?a20 ?l20 ?c20 ?k20 ?a21 ?l21 ?c21 ?k21 ?a22 ?l22 ?c22 ?k22 ?a23 ?l23 ?c23 ?k23 ?a24 ?l24 ?c24 ?k24 ?a25 ?l25 ?c25 ?k25 ?a26 ?l26 ?c26 ?k26 ?a27 ?l27 ?c27 ?k27 ?a28 ?l28 ?c28 ?k28 ?a29 ?l29 ?c29 ?k29 ?a30 ?l30 ?c30 ?k30 ?z0 ?z1 ?z2 ?z3 ?z4 ?z5 ?z6 ?z7 ?z8 ?z9 ?z10 ?z11 ?z12 ?z13 ?z14 ?y0 ?y1 ?y2 ?y3
    (case a1 => k_is)
    (case l1 => k_is)
    (case c1 => k_is)
    (case k1 => k_is)
    (case a2 => k_is)
    (case l2 => k_is)
    (case c2 => k_is)
    (case k2 => k_is)
    (case a3 => k_is)
    (case l3 => k_is)
    (case c3 => k_is)
    (case k3 => k_is)
    (case a4 => k_is)
    (case l4 => k_is)
    (case c4 => k_is)
    (case k4 => k_is)
    (case a5 => k_is)
    (case l5 => k_is)
    (case c5 => k_is)
    (case k5 => k_is)
    (case a6 => k_is)
    (case l6 => k_is)
    (case c6 => k_is)
    (case k6 => k_is)
    (case a7 => k_is)
    (case l7 => k_is)
    (case c7 => k_is)
    (case k7 => k_is)
    (case a8 => k_is)
    (case l8 => k_is)
    (case c8 => k_is)
    (case k8 => k_is)
    (case a9 => k_is)
    (case l9 => k_is)
    (case c9 => k_is)
    (case k9 => k_is)
    (case a10 => k_is)
    (case l10 => k_is)
    (case c10 => k_is)
    (case k10 => k_is)
    (case a11 => k_is)
    (case l11 => k_is)
    (case c11 => k_is)
    (case k11 => k_is)
    (case a12 => k_is)
    (case l12 => k_is)
    (case c12 => k_is)
    (case k12 => k_is)
    (case a13 => k_is)
    (case l13 => k_is)
    (case c13 => k_is)
    (case k13 => k_is)
    (case a14 => k_is)
    (case l14 => k_is)
    (case c14 => k_is)
    (case k14 => k_is)
    (case a15 => k_is)
    (case l15 => k_is)
    (case c15 => k_is)
    (case k15 => k_is)
    (case a16 => k_is)
    (case l16 => k_is)
    (case c16 => k_is)
    (case k16 => k_is)
    (case a17 => k_is)
    (case l17 => k_is)
    (case c17 => k_is)
    (case k17 => k_is)
    (case a18 => k_is)
    (case l18 => k_is)
    (case c18 => k_is)
    (case k18 => k_is)
    (case a19 => k_is)
    (case l19 => k_is)
    (case c19 => k_is)
    (case k19 => k_is)
    (case a20 => k_is)
    (case l20 => k_is)
    (case c20 => k_is)
    (case k20 => k_is)
    (case a21 => k_is)
    (case l21 => k_is)
    (case c21 => k_is)
    (case k21 => k_is)
    (case a22 => k_is)
    (case l22 => k_is)
    (case c22 => k_is)
    (case k22 => k_is)
    (case a23 => k_is)
    (case l23 => k_is)
    (case c23 => k_is)
    (case k23 => k_is)
    (case a24 => k_is)
    (case l24 => k_is)
    (case c24 => k_is)
    (case k24 => k_is)
    (case a25 => k_is)
    (case l25 => k_is)
    (case c25 => k_is)
    (case k25 => k_is)
    (case a26 => k_is)
    (case l26 => k_is)
    (case c26 => k_is)
    (case k26 => k_is)
    (case a27 => k_is)
    (case l27 => k_is)
    (case c27 => k_is)
    (case k27 => k_is)
    (case a28 => k_is)
    (case l28 => k_is)
    (case c28 => k_is)
    (case k28 => k_is)
    (case a29 => k_is)
    (case l29 => k_is)
    (case c29 => k_is)
    (case k29 => k_is)
    (case a30 => k_is)
    (case l30 => k_is)
    (case c30 => k_is)
    (case k30 => k_is)
    (case z0 => k_is)
    (case z1 => k_is)
    (case z2 => k_is)
    (case z3 => k_is)
    (case z4 => k_is)
    (case z5 => k_is)
    (case z6 => k_is)
    (case z7 => k_is)
    (case z8 => k_is)
    (case z9 => k_is)
    (case z10 => k_is)
    (case z11 => k_is)
    (case z12 => k_is)
    (case z13 => k_is)
    (case z14 => k_is)
    (case y0 => k_is)
    (case y1 => k_is)
    (case y2 => k_is)
    (case y3 => k_is)
#print axioms PySem.Challenge.cw_setsadded_k60_whole_greatest_clocks_for_holds
