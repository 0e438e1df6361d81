import PyProof.Rows.All
import HandS.ForMost
import HandS.Rev
import HandS.TupAny
import HandS.Wide
import HandS.WideMore
import HandS.SortInts
import HandS.RaiseMore
import HandS.Conv
import HandS.More
import HandS.SetFor
import HandS.WordsDict
import KE.DataFind
import HandS.StrMore
import HandS.Strs
import HandS.Gcd
import HandS.IsInst
import HandS.Text
import HandS.Replace
import HandS.Deep
import HandS.Style
import PyProof.Rows.StrPadFill
import HandS.NoneIn
import HandS.SetBool
import HandS.FStr
import PyProof.StrOps
import PyProof.EnumMake
import PyProof.Draws
import KE.GoesZip
import KE.GoesMore
import HandS.ReplaceLit
import HandS.ReplaceDef
import HandS.ReplaceList
import HandS.Small
import PySem.Challenge.RW_schoollands_k49_whole_rooms_and_plans
import PyProof.Rows.KernelRfl
import KE.IntTextText
import KE.IntTextLaws
set_option Elab.async false
set_option linter.all false
set_option maxRecDepth 100000
set_option maxHeartbeats 4000000
/-! Data instead of heaps: values as data D, a frame's slots as cells, each piece of syntax as a partial function on cells. -/
namespace HD
open PySem PySem.Spec PyProof.Rows L2

abbrev D := PyData
abbrev St := L2.St
def keyD : Key → D
  | .inl i => .int i
  | .inr x => .str x

mutual
/-- v stands for the data d, by the objects of H alone -/
inductive At (K : PySem.W.Frag) (H : Hp) : V → D → Prop
  | non : At K H .non .none
  | bl (b : Bool) : At K H (.bl b) (.bool b)
  | int (i : Int) : At K H (.int i) (.int i)
  | str (x : Str) : At K H (.str x) (.str x)
  | lst {a : Addr} {xs : List V} {ds : List D} : H a = some (.lst xs) → AtL K H xs ds → At K H (.ref a) (.list ds)
  | tup {a : Addr} {xs : List V} {ds : List D} : H a = some (.tup xs) → AtL K H xs ds → At K H (.ref a) (.tuple ds)
  | dk {a : Addr} {kvs : List (Key × V)} {des : List (D × D)} : H a = some (.dK kvs) → AtK K H kvs des → At K H (.ref a) (.dict des)
  | dt {a : Addr} {kvs : List (List Key × V)} {des : List (D × D)} : H a = some (.dT kvs) → AtT K H kvs des → At K H (.ref a) (.dict ((.none, .none) :: des))
  /-- a list that is read alone (the script) -/
  | scr {a : Addr} {xs : List V} {ds : List D} : SqL K H a xs → AtL K H xs ds → At K H (.ref a) (.dict [(.none, .list ds)])
inductive AtL (K : PySem.W.Frag) (H : Hp) : List V → List D → Prop
  | nil : AtL K H [] []
  | cons {v : V} {vs : List V} {d : D} {ds : List D} : At K H v d → AtL K H vs ds → AtL K H (v :: vs) (d :: ds)
inductive AtK (K : PySem.W.Frag) (H : Hp) : List (Key × V) → List (D × D) → Prop
  | nil : AtK K H [] []
  | cons {k : Key} {v : V} {vs : List (Key × V)} {d : D} {ds : List (D × D)} : At K H v d → AtK K H vs ds → AtK K H ((k, v) :: vs) ((keyD k, d) :: ds)
inductive AtT (K : PySem.W.Frag) (H : Hp) : List (List Key × V) → List (D × D) → Prop
  | nil : AtT K H [] []
  | cons {k : List Key} {v : V} {vs : List (List Key × V)} {d : D} {ds : List (D × D)} : At K H v d → AtT K H vs ds → AtT K H ((k, v) :: vs) ((.tuple (k.map keyD), d) :: ds)
end

theorem SqT.mono {K : PySem.W.Frag} {H H' : Hp} {a : Addr} {xs : List V} (e : Same H H') (h : SqT K H a xs) : SqT K H' a xs := by
  rcases h with (h | ⟨o, h⟩) | h
  · exact .inl (.inl (e _ _ h))
  · exact .inl (.inr ⟨o, e _ _ h⟩)
  · exact .inr h

section
variable {K : PySem.W.Frag} {H H' : Hp}
mutual
theorem At.mono (s : Same H H') {v : V} {d : D} (h : At K H v d) : At K H' v d := by
  cases h with
  | non => exact .non
  | bl b => exact .bl b
  | int i => exact .int i
  | str x => exact .str x
  | lst h1 h2 => exact .lst (s _ _ h1) (AtL.mono s h2)
  | tup h1 h2 => exact .tup (s _ _ h1) (AtL.mono s h2)
  | dk h1 h2 => exact .dk (s _ _ h1) (AtK.mono s h2)
  | dt h1 h2 => exact .dt (s _ _ h1) (AtT.mono s h2)
  | scr h1 h2 => exact .scr (s.seq h1) (AtL.mono s h2)
theorem AtL.mono (s : Same H H') {v : List V} {d : List D} (h : AtL K H v d) : AtL K H' v d := by
  cases h with
  | nil => exact .nil
  | cons h1 h2 => exact .cons (At.mono s h1) (AtL.mono s h2)
theorem AtK.mono (s : Same H H') {v : List (Key × V)} {d : List (D × D)} (h : AtK K H v d) : AtK K H' v d := by
  cases h with
  | nil => exact .nil
  | cons h1 h2 => exact .cons (At.mono s h1) (AtK.mono s h2)
theorem AtT.mono (s : Same H H') {v : List (List Key × V)} {d : List (D × D)} (h : AtT K H v d) : AtT K H' v d := by
  cases h with
  | nil => exact .nil
  | cons h1 h2 => exact .cons (At.mono s h1) (AtT.mono s h2)
end
theorem AtL.len {v : List V} {d : List D} : AtL K H v d → v.length = d.length := by
  induction v generalizing d with
  | nil => intro h; cases h; rfl
  | cons a r ih => intro h; cases h with
    | cons _ h2 => simp [ih h2]
theorem AtL.get {v : List V} {d : List D} {i : Nat} {e : D} : AtL K H v d → d[i]? = some e → ∃ x, v[i]? = some x ∧ At K H x e := by
  induction v generalizing d i with
  | nil => intro h; cases h; intro q; simp at q
  | cons a r ih => intro h; cases h with
    | cons h1 h2 =>
      cases i with
      | zero => intro q; simp at q; subst q; exact ⟨_, rfl, h1⟩
      | succ i => intro q; simp at q; obtain ⟨x, e1, e2⟩ := ih h2 q; exact ⟨x, by simpa using e1, e2⟩
theorem AtL.getV {v : List V} {d : List D} {i : Nat} {x : V} : AtL K H v d → v[i]? = some x → ∃ e, d[i]? = some e ∧ At K H x e := by
  induction v generalizing d i with
  | nil => intro h; cases h; intro q; simp at q
  | cons a r ih => intro h; cases h with
    | cons h1 h2 =>
      cases i with
      | zero => intro q; simp at q; subst q; exact ⟨_, rfl, h1⟩
      | succ i => intro q; simp at q; obtain ⟨x, e1, e2⟩ := ih h2 q; exact ⟨x, by simpa using e1, e2⟩
theorem AtL.app {v w : List V} {d e : List D} : AtL K H v d → AtL K H w e → AtL K H (v ++ w) (d ++ e) := by
  induction v generalizing d with
  | nil => intro h; cases h; intro q; exact q
  | cons a r ih => intro h; cases h with
    | cons h1 h2 => intro q; exact .cons h1 (ih h2 q)
theorem AtL.set {v : List V} {d : List D} {x : V} {e : D} (i : Nat) (hx : At K H x e) : AtL K H v d → AtL K H (v.set i x) (d.set i e) := by
  induction v generalizing d i with
  | nil => intro h; cases h; exact .nil
  | cons a r ih => intro h; cases h with
    | cons h1 h2 => cases i with
      | zero => exact .cons hx h2
      | succ i => exact .cons h1 (ih i h2)
theorem AtL.take {v : List V} {d : List D} (n : Nat) : AtL K H v d → AtL K H (v.take n) (d.take n) := by
  induction v generalizing d n with
  | nil => intro h; cases h; simpa using AtL.nil
  | cons a r ih => intro h; cases h with
    | cons h1 h2 => cases n with
      | zero => exact .nil
      | succ n => exact .cons h1 (ih n h2)
theorem AtL.drop {v : List V} {d : List D} (n : Nat) : AtL K H v d → AtL K H (v.drop n) (d.drop n) := by
  induction v generalizing d n with
  | nil => intro h; cases h; simpa using AtL.nil
  | cons a r ih => intro h; cases h with
    | cons h1 h2 => cases n with
      | zero => exact .cons h1 h2
      | succ n => exact ih n h2
theorem AtL.rev {v : List V} {d : List D} : AtL K H v d → AtL K H v.reverse d.reverse := by
  induction v generalizing d with
  | nil => intro h; cases h; simpa using AtL.nil
  | cons a r ih => intro h; cases h with
    | cons h1 h2 => simpa using AtL.app (ih h2) (.cons h1 .nil)
theorem AtL.dropLast {v : List V} {d : List D} (h : AtL K H v d) : AtL K H v.dropLast d.dropLast := by
  rw [List.dropLast_eq_take, List.dropLast_eq_take, h.len]; exact h.take _
theorem AtL.erase {v : List V} {d : List D} (n : Nat) (h : AtL K H v d) : AtL K H (v.eraseIdx n) (d.eraseIdx n) := by
  rw [List.eraseIdx_eq_take_drop_succ, List.eraseIdx_eq_take_drop_succ]; exact (h.take _).app (h.drop _)
theorem AtL.mem {v : List V} {d : List D} {x : V} (h : AtL K H v d) (hx : x ∈ v) : ∃ e ∈ d, At K H x e := by
  obtain ⟨i, hi⟩ := List.mem_iff_getElem?.mp hx
  obtain ⟨e, h1, h2⟩ := h.getV hi
  exact ⟨e, List.mem_of_getElem? h1, h2⟩
end

/-- what stands at an owned address -/
inductive Own (K : PySem.W.Frag) (F : Hp) : HO → D → Prop
  | lst {xs : List V} {ds : List D} : AtL K F xs ds → Own K F (.lst xs) (.list ds)
  | dk {kvs : List (Key × V)} {des : List (D × D)} : AtK K F kvs des → Own K F (.dK kvs) (.dict des)
  | dt {kvs : List (List Key × V)} {des : List (D × D)} : AtT K F kvs des → Own K F (.dT kvs) (.dict ((.none, .none) :: des))
theorem Own.mono {K : PySem.W.Frag} {F F' : Hp} (s : Same F F') {o : HO} {d : D} (h : Own K F o d) : Own K F' o d := by
  cases h with
  | lst h => exact .lst (h.mono s)
  | dk h => exact .dk (h.mono s)
  | dt h => exact .dt (h.mono s)
theorem Own.at {K : PySem.W.Frag} {F : Hp} {o : HO} {d : D} {p : Addr} (h : Own K F o d) (hp : F p = some o) : At K F (.ref p) d := by
  cases h with
  | lst h => exact .lst hp h
  | dk h => exact .dk hp h
  | dt h => exact .dt hp h

/-- a slot: nothing, data that stays, an object of this frame's own, an object that the caller handed in to be changed -/
inductive Cell where
  | un
  | dat (d : D)
  | own (d : D)
  | io (d : D)
abbrev Env := List Cell
inductive R where
  | dat (d : D)
  | slot (i : Nat)
def Cell.held : Cell → Option D
  | .own d => some d
  | .io d => some d
  | _ => none
def cellAt (e : Env) (i : Nat) : Option D := (e[i]?).bind Cell.held
def R.get (e : Env) : R → Option D
  | .dat d => some d
  | .slot i => cellAt e i
/-- as data that stays: an own object is not changed any more -/
def R.take (e : Env) : R → Option (D × Env)
  | .dat d => some (d, e)
  | .slot i => match e[i]? with
    | some (.own d) => some (d, e.set i (.dat d))
    | _ => none

structure Gd where
  H0 : Hp
  F0 : Hp
  io : List (Nat × Addr)
abbrev Gd.ads (G : Gd) : List Addr := G.io.map (·.2)

structure Rep (K : PySem.W.Frag) (G : Gd) (F : Hp) (e : Env) (σ : St) (H : Hp) : Prop where
  sub : Same F H
  sub0 : Same G.F0 F
  fr : ∀ b x, F b = some x → G.F0 b = some x ∨ G.H0 b = none
  frame : ∀ b x, G.H0 b = some x → b ∉ G.ads → H b = some x
  len : e.length = σ.length
  dat : ∀ (i : Nat) (d : D), e[i]? = some (.dat d) → ∃ v, σ[i]? = some (some v) ∧ At K F v d
  own : ∀ (i : Nat) (c : Cell) (d : D), e[i]? = some c → c.held = some d → ∃ p o, σ[i]? = some (some (.ref p)) ∧ H p = some o ∧ Own K F o d ∧ F p = none ∧ ((∃ d', c = .own d') → G.H0 p = none) ∧ ((∃ d', c = .io d') → (i, p) ∈ G.io)
  sep : ∀ (i j : Nat) (c c' : Cell) (d d' : D) (p : Addr), e[i]? = some c → c.held = some d → e[j]? = some c' → c'.held = some d' → σ[i]? = some (some (.ref p)) → σ[j]? = some (some (.ref p)) → i = j
  io : ∀ (q : Nat × Addr), q ∈ G.io → σ[q.1]? = some (some (.ref q.2)) ∧ ∃ d, e[q.1]? = some (.io d)

/-- new things: in F' and H' beside what stood -/
structure Adds (F H F' H' : Hp) : Prop where
  ff : Same F F'
  hh : Same H H'
  sub : Same F' H'
  nw : ∀ b x, F' b = some x → F b = some x ∨ H b = none
theorem Adds.refl {F H : Hp} (s : Same F H) : Adds F H F H := ⟨.refl _, .refl _, s, fun _ _ h => .inl h⟩
theorem Adds.trans {F H F1 H1 F2 H2 : Hp} (a : Adds F H F1 H1) (b : Adds F1 H1 F2 H2) : Adds F H F2 H2 :=
  ⟨a.ff.trans b.ff, a.hh.trans b.hh, b.sub, fun c x h => by
    rcases b.nw c x h with q | q
    · exact a.nw c x q
    · exact .inr (a.hh.free q)⟩
theorem same_upd {H : Hp} {p : Addr} {o : HO} (h : H p = none) : Same H (upd H p o) := fun b x e => by
  rw [upd_ne (ne_of_none e h)]; exact e
theorem upd_some {H : Hp} {p b : Addr} {o x : HO} (h : upd H p o b = some x) : (b = p ∧ x = o) ∨ (b ≠ p ∧ H b = some x) := by
  by_cases e : b = p
  · subst e; rw [upd_same] at h; exact .inl ⟨rfl, (Option.some.inj h).symm⟩
  · rw [upd_ne e] at h; exact .inr ⟨e, h⟩
/-- a new object that stays -/
theorem Adds.new {F H : Hp} {p : Addr} {o : HO} (s : Same F H) (h : H p = none) : Adds F H (upd F p o) (upd H p o) :=
  ⟨same_upd (s.free h), same_upd h, fun b x e => by
    rcases upd_some e with ⟨rfl, rfl⟩ | ⟨ne, e⟩
    · exact upd_same
    · rw [upd_ne ne]; exact s b x e, fun b x e => by
    rcases upd_some e with ⟨rfl, rfl⟩ | ⟨ne, e⟩
    · exact .inr h
    · exact .inl e⟩
/-- a new object of one's own -/
theorem Adds.new0 {F H : Hp} {p : Addr} {o : HO} (s : Same F H) (h : H p = none) : Adds F H F (upd H p o) :=
  ⟨.refl _, same_upd h, s.trans (same_upd h), fun b x e => .inl e⟩

section
variable {K : PySem.W.Frag} {G : Gd} {F F' H H' : Hp} {e e' : Env} {σ : St}
theorem Rep.adds (r : Rep K G F e σ H) (a : Adds F H F' H') : Rep K G F' e σ H' where
  sub := a.sub
  sub0 := r.sub0.trans a.ff
  fr := fun b x h => by
    rcases a.nw b x h with q | q
    · exact r.fr b x q
    · refine .inr ?_
      cases h0 : G.H0 b with
      | none => rfl
      | some y =>
        by_cases hb : b ∈ G.ads
        · obtain ⟨q', hq, rfl⟩ := List.mem_map.mp hb
          obtain ⟨h1, d, h2⟩ := r.io q' hq
          obtain ⟨p, o, e1, e2, _⟩ := r.own q'.1 _ d h2 rfl
          rw [h1] at e1; cases e1
          rw [q] at e2; cases e2
        · rw [r.frame b y h0 hb] at q; cases q
  frame := fun b x h hb => a.hh b x (r.frame b x h hb)
  len := r.len
  dat := fun i d h => by
    obtain ⟨v, h1, h2⟩ := r.dat i d h
    exact ⟨v, h1, h2.mono a.ff⟩
  own := fun i c d h hc => by
    obtain ⟨p, o, h1, h2, h3, h4, h5, h6⟩ := r.own i c d h hc
    refine ⟨p, o, h1, a.hh _ _ h2, h3.mono a.ff, ?_, h5, h6⟩
    cases q : F' p with
    | none => rfl
    | some x =>
      rcases a.nw p x q with z | z
      · rw [h4] at z; cases z
      · rw [h2] at z; cases z
  sep := r.sep
  io := r.io
end

/-- the value of an operand -/
def RAt (K : PySem.W.Frag) (F : Hp) (e : Env) (σ : St) (v : V) : R → Prop
  | .dat d => At K F v d
  | .slot i => σ[i]? = some (some v) ∧ ∃ d, cellAt e i = some d
/-- readable at the top in H, within as in F -/
inductive Top (K : PySem.W.Frag) (F H : Hp) (v : V) (d : D) : Prop
  | at : At K F v d → Top K F H v d
  | own {p : Addr} {o : HO} : v = .ref p → H p = some o → Own K F o d → Top K F H v d

theorem cellAt_some {e : Env} {i : Nat} {d : D} (h : cellAt e i = some d) : ∃ c, e[i]? = some c ∧ c.held = some d := by
  unfold cellAt at h
  cases q : e[i]? with
  | none => rw [q] at h; cases h
  | some c => rw [q] at h; exact ⟨c, rfl, h⟩
theorem cellAt_of {e : Env} {i : Nat} {c : Cell} {d : D} (h : e[i]? = some c) (hc : c.held = some d) : cellAt e i = some d := by
  unfold cellAt; rw [h]; exact hc

section
variable {K : PySem.W.Frag} {G : Gd} {F F' H H' : Hp} {e e' : Env} {σ : St} {v : V} {r : R} {d : D}
theorem RAt.top (rep : Rep K G F e σ H) (h : RAt K F e σ v r) (g : r.get e = some d) : Top K F H v d := by
  cases r with
  | dat d' => cases g; exact .at h
  | slot i =>
    obtain ⟨h1, _⟩ := h
    obtain ⟨c, hc, hd⟩ := cellAt_some g
    obtain ⟨p, o, e1, e2, e3, _⟩ := rep.own i c d hc hd
    rw [h1] at e1; cases e1
    exact .own rfl e2 e3
/-- later on -/
theorem RAt.later (h : RAt K F e σ v r) (s : Same F F') (g : (r.get e').isSome = true) : RAt K F' e' σ v r := by
  cases r with
  | dat d' => exact At.mono s h
  | slot i =>
    obtain ⟨d, hd⟩ := Option.isSome_iff_exists.mp g
    exact ⟨h.1, d, hd⟩
/-- an own object is kept from now on -/
theorem Rep.freeze {i : Nat} (rep : Rep K G F e σ H) (hi : e[i]? = some (.own d)) : ∃ F' p, σ[i]? = some (some (.ref p)) ∧ Rep K G F' (e.set i (.dat d)) σ H ∧ Same F F' ∧ At K F' (.ref p) d := by
  obtain ⟨p, o, h1, h2, h3, h4, h5, h6⟩ := rep.own i _ d hi rfl
  have hlt : i < e.length := (List.getElem?_eq_some_iff.mp hi).1
  have hs : Same F (upd F p o) := same_upd h4
  have hat : At K (upd F p o) (.ref p) d := (h3.mono hs).at upd_same
  have get_set : ∀ {j : Nat} {c : Cell} {d' : D}, (e.set i (.dat d))[j]? = some c → c.held = some d' → j ≠ i ∧ e[j]? = some c := by
    intro j c d' hj hc
    by_cases e1 : j = i
    · subst e1; rw [List.getElem?_set_self hlt] at hj; cases hj; cases hc
    · exact ⟨e1, by rw [List.getElem?_set_ne (Ne.symm e1)] at hj; exact hj⟩
  refine ⟨upd F p o, p, h1, ⟨?_, rep.sub0.trans hs, ?_, rep.frame, ?_, ?_, ?_, ?_, ?_⟩, hs, hat⟩
  · intro b x hb
    rcases upd_some hb with ⟨rfl, rfl⟩ | ⟨ne, hb⟩
    · exact h2
    · exact rep.sub b x hb
  · intro b x hb
    rcases upd_some hb with ⟨rfl, rfl⟩ | ⟨ne, hb⟩
    · exact .inr (h5 ⟨_, rfl⟩)
    · exact rep.fr b x hb
  · rw [List.length_set]; exact rep.len
  · intro j d' hj
    by_cases e1 : j = i
    · subst e1; rw [List.getElem?_set_self hlt] at hj; cases hj; exact ⟨_, h1, hat⟩
    · rw [List.getElem?_set_ne (Ne.symm e1)] at hj
      obtain ⟨v, q1, q2⟩ := rep.dat j d' hj
      exact ⟨v, q1, q2.mono hs⟩
  · intro j c d' hj hc
    obtain ⟨ne, hj⟩ := get_set hj hc
    obtain ⟨p', o', q1, q2, q3, q4, q5, q6⟩ := rep.own j c d' hj hc
    refine ⟨p', o', q1, q2, q3.mono hs, ?_, q5, q6⟩
    have : p' ≠ p := fun z => ne (rep.sep j i c _ d' d p' hj hc hi rfl q1 (by rw [z]; exact h1))
    rw [upd_ne this]; exact q4
  · intro j k c c' d1 d2 q hj hc hk hc' s1 s2
    exact rep.sep j k c c' d1 d2 q (get_set hj hc).2 hc (get_set hk hc').2 hc' s1 s2
  · intro q hq
    obtain ⟨q1, d', q2⟩ := rep.io q hq
    refine ⟨q1, d', ?_⟩
    have : q.1 ≠ i := fun z => by rw [z, hi] at q2; cases q2
    rw [List.getElem?_set_ne (Ne.symm this)]; exact q2
theorem Rep.take (rep : Rep K G F e σ H) (h : RAt K F e σ v r) (g : r.take e = some (d, e')) : ∃ F', Rep K G F' e' σ H ∧ Same F F' ∧ At K F' v d := by
  cases r with
  | dat d' => cases g; exact ⟨F, rep, .refl _, h⟩
  | slot i =>
    unfold R.take at g
    cases q : e[i]? with
    | none => simp [q] at g
    | some c =>
      cases c with
      | own d' =>
        simp [q] at g
        obtain ⟨rfl, rfl⟩ := g
        obtain ⟨F', p, h1, h2, h3, h4⟩ := rep.freeze q
        have := h.1; rw [h1] at this; cases this
        exact ⟨F', h2, h3, h4⟩
      | _ => simp [q] at g
end

/-! ### readings of data -/
section
variable {K : PySem.W.Frag} {F H : Hp} {v : V}
theorem Top.list {ds : List D} (s : Same F H) (h : Top K F H v (.list ds)) : ∃ a xs, v = .ref a ∧ H a = some (.lst xs) ∧ AtL K F xs ds := by
  rcases h with h | ⟨rfl, h2, h3⟩
  · cases h with | lst h1 h2 => exact ⟨_, _, rfl, s _ _ h1, h2⟩
  · cases h3 with | lst h3 => exact ⟨_, _, rfl, h2, h3⟩
theorem Top.tuple {ds : List D} (s : Same F H) (h : Top K F H v (.tuple ds)) : ∃ a xs, v = .ref a ∧ SqT K H a xs ∧ AtL K F xs ds := by
  rcases h with h | ⟨rfl, h2, h3⟩
  · cases h with | tup h1 h2 => exact ⟨_, _, rfl, .of (s _ _ h1), h2⟩
  · cases h3
theorem Top.int {i : Int} (h : Top K F H v (.int i)) : v = .int i := by
  rcases h with h | ⟨rfl, h2, h3⟩
  · cases h; rfl
  · cases h3
theorem Top.str {i : Str} (h : Top K F H v (.str i)) : v = .str i := by
  rcases h with h | ⟨rfl, h2, h3⟩
  · cases h; rfl
  · cases h3
theorem Top.bool {i : Bool} (h : Top K F H v (.bool i)) : v = .bl i := by
  rcases h with h | ⟨rfl, h2, h3⟩
  · cases h; rfl
  · cases h3
theorem Top.none (h : Top K F H v .none) : v = .non := by
  rcases h with h | ⟨rfl, h2, h3⟩
  · cases h; rfl
  · cases h3
theorem Top.dict {ds : List (D × D)} (s : Same F H) (h : Top K F H v (.dict ds)) : ∃ a, v = .ref a ∧ ((∃ kvs, H a = some (.dK kvs) ∧ AtK K F kvs ds) ∨ (∃ kvs des, ds = (.none, .none) :: des ∧ H a = some (.dT kvs) ∧ AtT K F kvs des) ∨ ∃ xs es, ds = [(.none, .list es)] ∧ SqL K H a xs ∧ AtL K F xs es) := by
  rcases h with h | ⟨rfl, h2, h3⟩
  · cases h with
    | dk h1 h2 => exact ⟨_, rfl, .inl ⟨_, s _ _ h1, h2⟩⟩
    | dt h1 h2 => exact ⟨_, rfl, .inr (.inl ⟨_, _, rfl, s _ _ h1, h2⟩)⟩
    | scr h1 h2 => exact ⟨_, rfl, .inr (.inr ⟨_, _, rfl, s.seq h1, h2⟩)⟩
  · cases h3 with
    | dk h => exact ⟨_, rfl, .inl ⟨_, h2, h⟩⟩
    | dt h => exact ⟨_, rfl, .inr (.inl ⟨_, _, rfl, h2, h⟩)⟩
theorem AtK.noScr {kvs : List (Key × V)} {es : List (D × D)} {d : D} (h : AtK K F kvs es) : es ≠ [(.none, d)] := by
  intro e
  subst e
  cases kvs with
  | nil => cases h
  | cons p r =>
    obtain ⟨k, v⟩ := p
    generalize hk : keyD k = kd at h
    have : ∀ {kvs : List (Key × V)} {es : List (D × D)}, AtK K F kvs es → ∀ q ∈ es, q.1 ≠ .none := by
      intro kvs
      induction kvs with
      | nil => intro es h q hq; cases h; cases hq
      | cons p r ih =>
        intro es h q hq
        cases h with
        | cons h1 h2 =>
          rcases List.mem_cons.mp hq with rfl | hq
          · rename_i k _ _ _; cases k <;> (intro z; cases z)
          · exact ih h2 q hq
    exact this h _ (List.mem_singleton.mpr rfl) rfl
theorem AtT.noScr {kvs : List (List Key × V)} {es : List (D × D)} {d : D} (h : AtT K F kvs es) : es ≠ [(.none, d)] := by
  intro e
  subst e
  cases h
theorem Top.scr {es : List D} (s : Same F H) (h : Top K F H v (.dict [(.none, .list es)])) : ∃ a xs, v = .ref a ∧ SqL K H a xs ∧ AtL K F xs es := by
  obtain ⟨a, e1, h'⟩ := h.dict s
  rcases h' with ⟨kvs, _, h'⟩ | ⟨kvs, des, e, _, h'⟩ | ⟨xs, es', e, h1, h2⟩
  · exact (h'.noScr rfl).elim
  · cases e
  · cases e; exact ⟨a, xs, e1, h1, h2⟩
/-- in the heap at hand the whole data stands -/
theorem Top.whole {d : D} (s : Same F H) (h : Top K F H v d) : At K H v d := by
  rcases h with h | ⟨rfl, h2, h3⟩
  · exact h.mono s
  · exact (h3.mono s).at h2
end
mutual
theorem At.dp {K : PySem.W.Frag} {H : Hp} {v : V} {d : D} (h : At K H v d) (c : d.canLay0 = true) : Dp K H v d := by
  cases h with
  | non => exact .non
  | bl b => exact .bl b
  | int i => exact .int i
  | str x => exact .str x
  | lst h1 h2 => exact .lst (.of h1) (AtL.dp h2 (by simpa [PyData.canLay0] using c))
  | tup h1 h2 => exact .tup (.of h1) (AtL.dp h2 (by simpa [PyData.canLay0] using c))
  | dk h1 h2 => simp [PyData.canLay0] at c
  | dt h1 h2 => simp [PyData.canLay0] at c
  | scr h1 h2 => simp [PyData.canLay0] at c
theorem AtL.dp {K : PySem.W.Frag} {H : Hp} {v : List V} {d : List D} (h : AtL K H v d) (c : PyData.canLayAll0 d = true) : DpAll K H v d := by
  cases h with
  | nil => exact .nil
  | cons h1 h2 =>
    simp only [PyData.canLayAll0, Bool.and_eq_true] at c
    exact .cons (At.dp h1 c.1) (AtL.dp h2 c.2)
end
end HD

namespace HD
open PySem PySem.Spec PyProof.Rows L2

structure Good (X : Cx) (K : PySem.W.Frag) (k : Nat) : Prop where
  K : X.K = K
  calm : X.calm = true
  nd : X.N.Nodup
  room : Room k X.A

/-! ### denotations -/
abbrev XD := Env → Option (R × Env)
abbrev ND := Env → Option (D × Env)
abbrev TD := Env → Option (Bool × Env)
abbrev AD := Env → Option (List R × Env)
inductive Out where
  | nx (e : Env)
  | rt (d : D) (e : Env)
  | ro (d : D) (e : Env)
  | bk (e : Env)
  | ct (e : Env)
abbrev SD := Env → Option Out

/-! ### readings -/
def SemE (K : PySem.W.Frag) (t : TE) (f : XD) : Prop := ∀ (G : Gd) (F : Hp) (e : Env) (σ : St) (H : Hp) (r : R) (e' : Env) (Q : VK), Rep K G F e σ H → f e = some (r, e') →
  (∀ v F' H', Rep K G F' e' σ H' → Same F F' → RAt K F' e' σ v r → Q v H') → t σ H Q
/-- a new object of one's own -/
structure Fresh (K : PySem.W.Frag) (G : Gd) (F : Hp) (e : Env) (σ : St) (H : Hp) (p : Addr) (d : D) : Prop where
  ob : ∃ o, H p = some o ∧ Own K F o d
  f : F p = none
  h0 : G.H0 p = none
  ne : ∀ (i : Nat) (c : Cell) (d : D), e[i]? = some c → c.held = some d → σ[i]? ≠ some (some (.ref p))
def SemN (K : PySem.W.Frag) (t : TE) (f : ND) : Prop := ∀ (G : Gd) (F : Hp) (e : Env) (σ : St) (H : Hp) (d : D) (e' : Env) (Q : VK), Rep K G F e σ H → f e = some (d, e') →
  (∀ p F' H', Rep K G F' e' σ H' → Same F F' → Fresh K G F' e' σ H' p d → Q (.ref p) H') → t σ H Q
def SemT (K : PySem.W.Frag) (t : TT) (f : TD) : Prop := ∀ (G : Gd) (F : Hp) (e : Env) (σ : St) (H : Hp) (b : Bool) (e' : Env) (Q : Bool → Hp → Prop), Rep K G F e σ H → f e = some (b, e') →
  (∀ F' H', Rep K G F' e' σ H' → Same F F' → Q b H') → t σ H Q
def SemA (K : PySem.W.Frag) (t : TA) (f : AD) : Prop := ∀ (G : Gd) (F : Hp) (e : Env) (σ : St) (H : Hp) (rs : List R) (e' : Env) (Q : List V → Hp → Prop), Rep K G F e σ H → f e = some (rs, e') →
  (∀ vs F' H', Rep K G F' e' σ H' → Same F F' → List.length vs = rs.length → (∀ (i : Nat) (v : V) (r : R), vs[i]? = some v → rs[i]? = some r → (r.get e').isSome = true → RAt K F' e' σ v r) → Q vs H') → t σ H Q
def Post (K : PySem.W.Frag) (G : Gd) (F : Hp) (o : Out) (Dn : Ends) : Prop := match o with
  | .nx e' => ∀ σ' F' H', Rep K G F' e' σ' H' → Same F F' → Dn.nx σ' H'
  | .bk e' => ∀ σ' F' H', Rep K G F' e' σ' H' → Same F F' → Dn.bk σ' H'
  | .ct e' => ∀ σ' F' H', Rep K G F' e' σ' H' → Same F F' → Dn.ct σ' H'
  | .rt d e' => ∀ v σ' F' H', Rep K G F' e' σ' H' → Same F F' → At K F' v d → Dn.rt v H'
  | .ro d e' => ∀ p σ' F' H', Rep K G F' e' σ' H' → Same F F' → Fresh K G F' e' σ' H' p d → Dn.rt (.ref p) H'
def SemS (K : PySem.W.Frag) (t : TS) (f : SD) : Prop := ∀ (G : Gd) (F : Hp) (e : Env) (σ : St) (H : Hp) (o : Out) (Dn : Ends), Rep K G F e σ H → f e = some o → Post K G F o Dn → t Dn σ H

def PEd (X : Cx) (K : PySem.W.Frag) (ex : Expr) (f : XD) : Prop := ∃ t, PE X ex t ∧ SemE K t f
def PNd (X : Cx) (K : PySem.W.Frag) (ex : Expr) (f : ND) : Prop := ∃ t, PE X ex t ∧ SemN K t f
def PTd (X : Cx) (K : PySem.W.Frag) (ex : Expr) (f : TD) : Prop := ∃ t, PT X ex t ∧ SemT K t f
def PWd (X : Cx) (K : PySem.W.Frag) (ex : Expr) (f : TD) : Prop := ∃ t, PW X ex t ∧ SemT K t f
def PAd (X : Cx) (K : PySem.W.Frag) (es : List Expr) (f : AD) : Prop := ∃ t, PA X es t ∧ SemA K t f
def PSd (X : Cx) (K : PySem.W.Frag) (st : Stmt) (f : SD) : Prop := ∃ t, PS X st t ∧ SemS K t f
def PSsd (X : Cx) (K : PySem.W.Frag) (st : List Stmt) (f : SD) : Prop := ∃ t, PSs X st t ∧ SemS K t f

theorem Rep.later {K : PySem.W.Frag} {G : Gd} {F F' H' : Hp} {e e' : Env} {σ : St} {v : V} {r : R} {d : D} (h : RAt K F e σ v r) (rep : Rep K G F' e' σ H') (s : Same F F') (g : r.get e' = some d) : Top K F' H' v d :=
  (h.later s (by rw [g]; rfl)).top rep g

section
variable {X : Cx} {K : PySem.W.Frag} {k : Nat}
/-! ### names, constants -/
def dVar (i : Nat) : XD := fun e => match e[i]? with
  | some (.dat d) => some (.dat d, e)
  | some (.own _) => some (.slot i, e)
  | some (.io _) => some (.slot i, e)
  | _ => none
theorem ped_var {i : Nat} {x : Str} {pos : Pos} (hN : X.N[i]? = some x := by rfl) (hv : Vis X.env.scope x := by first | exact Or.inl rfl | exact Or.inr (Or.inl rfl) | exact Or.inr (Or.inr rfl)) (hd : (x == ("__debug__" : Str)) = false := by decide)
    (hcd : (x == ("__classdict__" : Str)) = false := by decide) : PEd X K (.Name x pos) (dVar i) := by
  refine ⟨_, pe_var hN hv hd hcd, fun G F e σ H r e' Q rep hf q => ?_⟩
  unfold dVar at hf
  split at hf
  · rename_i d hd
    cases hf
    obtain ⟨v, h1, h2⟩ := rep.dat i d hd
    exact ⟨v, h1, q v F H rep (.refl _) h2⟩
  · rename_i d hd
    cases hf
    obtain ⟨p, o, h1, _⟩ := rep.own i _ d hd rfl
    exact ⟨_, h1, q _ F H rep (.refl _) ⟨h1, d, cellAt_of hd rfl⟩⟩
  · rename_i d hd
    cases hf
    obtain ⟨p, o, h1, _⟩ := rep.own i _ d hd rfl
    exact ⟨_, h1, q _ F H rep (.refl _) ⟨h1, d, cellAt_of hd rfl⟩⟩
  · cases hf
def dC (d : D) : XD := fun e => some (.dat d, e)
theorem ped_c {ex : Expr} {v : V} {d : D} (h : PE X ex (tC v)) (ha : ∀ F, At K F v d) : PEd X K ex (dC d) :=
  ⟨_, h, fun G F e σ H r e' Q rep hf q => by cases hf; exact q v F H rep (.refl _) (ha F)⟩
theorem ped_int {i j pos} : PEd X K (.Constant (.int i) j pos) (dC (.int i)) := ped_c pe_int fun _ => .int i
theorem ped_str {i j pos} : PEd X K (.Constant (.str i) j pos) (dC (.str i)) := ped_c pe_str fun _ => .str i
theorem ped_bl {i j pos} : PEd X K (.Constant (.bool i) j pos) (dC (.bool i)) := ped_c pe_bl fun _ => .bl i
theorem ped_non {j pos} : PEd X K (.Constant .none j pos) (dC .none) := ped_c pe_non fun _ => .non
theorem ped_globS {x : Str} {z : Str} {u : Value} {pos : Pos} (hg : Gl X x) (hm : X.mg x = some u) (r : RelV (.str z) u) (hd : (x == ("__debug__" : Str)) = false := by decide) : PEd X K (.Name x pos) (dC (.str z)) := ped_c (pe_glob hg hm r hd) fun _ => .str z
theorem ped_globI {x : Str} {z : Int} {u : Value} {pos : Pos} (hg : Gl X x) (hm : X.mg x = some u) (r : RelV (.int z) u) (hd : (x == ("__debug__" : Str)) = false := by decide) : PEd X K (.Name x pos) (dC (.int z)) := ped_c (pe_glob hg hm r hd) fun _ => .int z

/-! ### a new object becomes data -/
def dN (f : ND) : XD := fun e => (f e).map fun p => (.dat p.1, p.2)
theorem Rep.keep {K : PySem.W.Frag} {G : Gd} {F H : Hp} {e : Env} {σ : St} {p : Addr} {d : D} (rep : Rep K G F e σ H) (fr : Fresh K G F e σ H p d) : ∃ F', Rep K G F' e σ H ∧ Same F F' ∧ At K F' (.ref p) d := by
  obtain ⟨o, h1, h2⟩ := fr.ob
  have hs : Same F (upd F p o) := same_upd fr.f
  refine ⟨upd F p o, ⟨?_, rep.sub0.trans hs, ?_, rep.frame, rep.len, ?_, ?_, rep.sep, rep.io⟩, hs, (h2.mono hs).at upd_same⟩
  · intro b x hb
    rcases upd_some hb with ⟨rfl, rfl⟩ | ⟨ne, hb⟩
    · exact h1
    · exact rep.sub b x hb
  · intro b x hb
    rcases upd_some hb with ⟨rfl, rfl⟩ | ⟨ne, hb⟩
    · exact .inr fr.h0
    · exact rep.fr b x hb
  · intro i d' hi
    obtain ⟨v, q1, q2⟩ := rep.dat i d' hi
    exact ⟨v, q1, q2.mono hs⟩
  · intro i c d' hi hc
    obtain ⟨p', o', q1, q2, q3, q4, q5, q6⟩ := rep.own i c d' hi hc
    refine ⟨p', o', q1, q2, q3.mono hs, ?_, q5, q6⟩
    have : p' ≠ p := fun z => fr.ne i c d' hi hc (by rw [← z]; exact q1)
    rw [upd_ne this]; exact q4
theorem ped_n {ex : Expr} {f : ND} (h : PNd X K ex f) : PEd X K ex (dN f) := by
  obtain ⟨t, h1, h2⟩ := h
  refine ⟨t, h1, fun G F e σ H r e' Q rep hf q => ?_⟩
  unfold dN at hf
  cases hfe : f e with
  | none => rw [hfe] at hf; cases hf
  | some y =>
    rw [hfe] at hf
    cases hf
    refine h2 G F e σ H y.1 y.2 Q rep (by rw [hfe]) fun p F' H' rep' s fr => ?_
    obtain ⟨F2, rep2, s2, a2⟩ := rep'.keep fr
    exact q _ F2 H' rep2 (s.trans s2) a2

/-! ### two operands -/
theorem sem2 {ta tb : TE} {fa fb : XD} (sa : SemE K ta fa) (sb : SemE K tb fb) {F : Hp} {e : Env} {σ : St} {H : Hp} (rep : Rep K G F e σ H) {ra rb : R} {e1 e2 : Env} {x y : D}
    (ha : fa e = some (ra, e1)) (hb : fb e1 = some (rb, e2)) (hx : ra.get e2 = some x) (hy : rb.get e2 = some y) {P : V → V → Hp → Prop}
    (q : ∀ v u F' H', Rep K G F' e2 σ H' → Same F F' → Top K F' H' v x → Top K F' H' u y → P v u H') : ta σ H fun v H1 => tb σ H1 fun u H2 => P v u H2 := by
  refine sa G F e σ H ra e1 _ rep ha fun v F1 H1 rep1 s1 a1 => ?_
  refine sb G F1 e1 σ H1 rb e2 _ rep1 hb fun u F2 H2 rep2 s2 a2 => ?_
  exact q v u F2 H2 rep2 (s1.trans s2) (Rep.later a1 rep2 s2 hx) (a2.top rep2 hy)
/-- an operator by data -/
def Op2 (K : PySem.W.Frag) (r : R2) (g : D → D → Option D) : Prop := ∀ (F H : Hp) (v u : V) (x y z : D) (Q : VK), Same F H → Top K F H v x → Top K F H u y → g x y = some z →
  (∀ w F' H', Adds F H F' H' → At K F' w z → Q w H') → r v u H Q
theorem Op2.or {K : PySem.W.Frag} {r r' : R2} {g g' : D → D → Option D} (h : Op2 K r g) (h' : Op2 K r' g') : Op2 K (fun x y H Q => r x y H Q ∨ r' x y H Q) (fun x y => (g x y).or (g' x y)) := by
  intro F H v u x y z Q s a b hz q
  dsimp only at hz
  cases hg : g x y with
  | some w => rw [hg] at hz; simp at hz; subst hz; exact .inl (h F H v u x y w Q s a b hg q)
  | none => rw [hg] at hz; simp at hz; exact .inr (h' F H v u x y z Q s a b hz q)
theorem Op2.imp {K : PySem.W.Frag} {r : R2} {g g' : D → D → Option D} (h : Op2 K r g) (hg : ∀ x y z, g' x y = some z → g x y = some z) : Op2 K r g' := fun F H v u x y z Q s a b hz q => h F H v u x y z Q s a b (hg x y z hz) q
def dBin (g : D → D → Option D) (a b : XD) : XD := fun e =>
  (a e).bind fun p => (b p.2).bind fun q => (p.1.get q.2).bind fun x => (q.1.get q.2).bind fun y => (g x y).map fun z => (.dat z, q.2)
theorem dBin_some {g : D → D → Option D} {a b : XD} {e e2 : Env} {r : R} (h : dBin g a b e = some (r, e2)) :
    ∃ ra e1 rb x y z, a e = some (ra, e1) ∧ b e1 = some (rb, e2) ∧ ra.get e2 = some x ∧ rb.get e2 = some y ∧ g x y = some z ∧ r = .dat z := by
  unfold dBin at h
  simp only [Option.bind_eq_some_iff, Option.map_eq_some_iff] at h
  obtain ⟨⟨ra, e1⟩, ha, ⟨rb, e2'⟩, hb, x, hx, y, hy, z, hz, he⟩ := h
  cases he
  exact ⟨ra, e1, rb, x, y, z, ha, hb, hx, hy, hz, rfl⟩
theorem sem_bin {r : R2} {g : D → D → Option D} {ta tb : TE} {fa fb : XD} (h2 : Op2 K r g) (sa : SemE K ta fa) (sb : SemE K tb fb) : SemE K (tOp r ta tb) (dBin g fa fb) := by
  intro G F e σ H r' e' Q rep hf q
  obtain ⟨ra, e1, rb, x, y, z, ha, hb, hx, hy, hz, rfl⟩ := dBin_some hf
  refine sem2 sa sb rep ha hb hx hy fun v u F' H' rep' s a1 a2 => ?_
  refine h2 F' H' v u x y z Q rep'.sub a1 a2 hz fun w F2 H2 ad aw => ?_
  exact q w F2 H2 (rep'.adds ad) (s.trans ad.ff) aw
variable {a b c : Expr} {fa fb fc : XD} {pos : Pos}
theorem ped_bin {op : Operator} {r : R2} {g : D → D → Option D} (ho : OpR X (binaryOp op) r) (h2 : Op2 K r g) (ha : PEd X K a fa) (hb : PEd X K b fb) : PEd X K (.BinOp a op b pos) (dBin g fa fb) := by
  obtain ⟨ta, ha, sa⟩ := ha
  obtain ⟨tb, hb, sb⟩ := hb
  exact ⟨_, pe_op ho ha hb, sem_bin h2 sa sb⟩
theorem ped_cmp {op : CmpOp} {r : R2} {g : D → D → Option D} (ho : OpR X (compareOp op) r) (h2 : Op2 K r g) (ha : PEd X K a fa) (hb : PEd X K b fb) (hm : behindInMarks op b = false) : PEd X K (.Compare a [op] [b] pos) (dBin g fa fb) := by
  obtain ⟨ta, ha, sa⟩ := ha
  obtain ⟨tb, hb, sb⟩ := hb
  exact ⟨_, pe_cmpR ho ha hb hm, sem_bin h2 sa sb⟩
/-- the value, a bool, as a test -/
def dB (f : XD) : TD := fun e => (f e).bind fun p => match p.1 with
  | .dat (.bool b) => some (b, p.2)
  | _ => none
theorem dB_some {f : XD} {e e' : Env} {k : Bool} (h : dB f e = some (k, e')) : f e = some (.dat (.bool k), e') := by
  unfold dB at h
  simp only [Option.bind_eq_some_iff] at h
  obtain ⟨⟨r, e1⟩, hf, h⟩ := h
  cases r with
  | slot i => cases h
  | dat d => cases d with
    | bool b => cases h; exact hf
    | _ => cases h
theorem at_bool {K : PySem.W.Frag} {F : Hp} {v : V} {k : Bool} (h : At K F v (.bool k)) : v = .bl k := by cases h; rfl
theorem at_int {K : PySem.W.Frag} {F : Hp} {v : V} {k : Int} (h : At K F v (.int k)) : v = .int k := by cases h; rfl
theorem sem_tTest {t : TE} {f : XD} (s : SemE K t f) : SemT K (tTest t) (dB f) := by
  intro G F e σ H k e' Q rep hf q
  refine s G F e σ H _ e' _ rep (dB_some hf) fun v F' H' rep' s' a => ?_
  exact ⟨k, at_bool a, q F' H' rep' s'⟩
theorem ptd_cmp {op : CmpOp} {r : R2} {g : D → D → Option D} (ho : OpR X (compareOp op) r) (h2 : Op2 K r g) (ha : PEd X K a fa) (hb : PEd X K b fb) (hm : behindInMarks op b = false) : PTd X K (.Compare a [op] [b] pos) (dB (dBin g fa fb)) := by
  obtain ⟨ta, ha, sa⟩ := ha
  obtain ⟨tb, hb, sb⟩ := hb
  exact ⟨_, pt_cmpR ho ha hb hm, sem_tTest (sem_bin h2 sa sb)⟩
/-- a < b < c -/
def dChain (g g' : D → D → Option D) (a b c : XD) : XD := fun e =>
  (a e).bind fun p => (b p.2).bind fun q => (p.1.get q.2).bind fun x => (q.1.get q.2).bind fun y => (g x y).bind fun z => match z with
    | .bool false => some (.dat (.bool false), q.2)
    | .bool true => (c q.2).bind fun s => (q.1.get s.2).bind fun y => (s.1.get s.2).bind fun w => (g' y w).map fun z => (.dat z, s.2)
    | _ => none
theorem sem_chain {r r' : R2} {g g' : D → D → Option D} {ta tb tc : TE} (h2 : Op2 K r g) (h2' : Op2 K r' g') (sa : SemE K ta fa) (sb : SemE K tb fb) (sc : SemE K tc fc) : SemE K (tChain r r' ta tb tc) (dChain g g' fa fb fc) := by
  intro G F e σ H r0 e' Q rep hf q
  unfold dChain at hf
  simp only [Option.bind_eq_some_iff] at hf
  obtain ⟨⟨ra, e1⟩, ha, ⟨rb, e2⟩, hb, x, hx, y, hy, z, hz, hf⟩ := hf
  refine sa G F e σ H ra e1 _ rep ha fun v F1 H1 rep1 s1 a1 => ?_
  refine sb G F1 e1 σ H1 rb e2 _ rep1 hb fun u F2 H2 rep2 s2 a2 => ?_
  refine h2 F2 H2 v u x y z _ rep2.sub (Rep.later a1 rep2 s2 hx) (a2.top rep2 hy) hz fun w F3 H3 ad aw => ?_
  have rep3 := rep2.adds ad
  cases z with
  | bool k =>
    refine ⟨k, at_bool aw, ?_⟩
    cases k with
    | false =>
      cases hf
      exact iteF (q _ F3 H3 rep3 (s1.trans (s2.trans ad.ff)) (.bl false))
    | true =>
      refine iteT ?_
      simp only [Option.bind_eq_some_iff, Option.map_eq_some_iff] at hf
      obtain ⟨⟨rc, e3⟩, hc, y', hy', w', hw', z', hz', hf⟩ := hf
      cases hf
      refine sc G F3 e2 σ H3 rc e3 _ rep3 hc fun t F4 H4 rep4 s4 a4 => ?_
      refine h2' F4 H4 u t y' w' z' _ rep4.sub (Rep.later a2 rep4 (ad.ff.trans s4) hy') (a4.top rep4 hw') hz' fun w5 F5 H5 ad5 aw5 => ?_
      exact q _ F5 H5 (rep4.adds ad5) (s1.trans (s2.trans (ad.ff.trans (s4.trans ad5.ff)))) aw5
  | _ => cases hf
theorem ped_chain {op op' : CmpOp} {r r' : R2} {g g' : D → D → Option D} (ho : OpR X (compareOp op) r) (ho' : OpR X (compareOp op') r') (h2 : Op2 K r g) (h2' : Op2 K r' g') (ha : PEd X K a fa) (hb : PEd X K b fb) (hc : PEd X K c fc)
    (hm : lastMarks [op, op'] [b, c] = false := by with_unfolding_all rfl) : PEd X K (.Compare a [op, op'] [b, c] pos) (dChain g g' fa fb fc) := by
  obtain ⟨ta, ha, sa⟩ := ha
  obtain ⟨tb, hb, sb⟩ := hb
  obtain ⟨tc, hc, sc⟩ := hc
  exact ⟨_, pe_chain ho ho' ha hb hc hm, sem_chain h2 h2' sa sb sc⟩
theorem ptd_chain {op op' : CmpOp} {r r' : R2} {g g' : D → D → Option D} (ho : OpR X (compareOp op) r) (ho' : OpR X (compareOp op') r') (h2 : Op2 K r g) (h2' : Op2 K r' g') (ha : PEd X K a fa) (hb : PEd X K b fb) (hc : PEd X K c fc)
    (hm : lastMarks [op, op'] [b, c] = false := by with_unfolding_all rfl) : PTd X K (.Compare a [op, op'] [b, c] pos) (dB (dChain g g' fa fb fc)) := by
  obtain ⟨ta, ha, sa⟩ := ha
  obtain ⟨tb, hb, sb⟩ := hb
  obtain ⟨tc, hc, sc⟩ := hc
  exact ⟨_, pt_chain ho ho' ha hb hc hm, sem_tTest (sem_chain h2 h2' sa sb sc)⟩

/-! ### one operand -/
def Op1 (K : PySem.W.Frag) (r : V → Hp → VK → Prop) (g : D → Option D) : Prop := ∀ (F H : Hp) (v : V) (x z : D) (Q : VK), Same F H → Top K F H v x → g x = some z →
  (∀ w F' H', Adds F H F' H' → At K F' w z → Q w H') → r v H Q
def dUn (g : D → Option D) (a : XD) : XD := fun e => (a e).bind fun p => (p.1.get p.2).bind fun x => (g x).map fun z => (.dat z, p.2)
theorem dUn_some {g : D → Option D} {a : XD} {e e1 : Env} {r : R} (h : dUn g a e = some (r, e1)) : ∃ ra x z, a e = some (ra, e1) ∧ ra.get e1 = some x ∧ g x = some z ∧ r = .dat z := by
  unfold dUn at h
  simp only [Option.bind_eq_some_iff, Option.map_eq_some_iff] at h
  obtain ⟨⟨ra, e1'⟩, ha, x, hx, z, hz, he⟩ := h
  cases he
  exact ⟨ra, x, z, ha, hx, hz, rfl⟩
theorem ped_un {op : UnaryOp} {r : V → Hp → VK → Prop} {g : D → Option D} (ho : UnR X (unaryOp op) r) (h1 : Op1 K r g) (ha : PEd X K a fa) : PEd X K (.UnaryOp op a pos) (dUn g fa) := by
  obtain ⟨ta, ha, sa⟩ := ha
  refine ⟨_, pe_un ho ha, fun G F e σ H r' e' Q rep hf q => ?_⟩
  obtain ⟨ra, x, z, hfa, hx, hz, rfl⟩ := dUn_some hf
  refine sa G F e σ H ra e' _ rep hfa fun v F1 H1 rep1 s1 a1 => ?_
  refine h1 F1 H1 v x z Q rep1.sub (a1.top rep1 hx) hz fun w F2 H2 ad aw => ?_
  exact q w F2 H2 (rep1.adds ad) (s1.trans ad.ff) aw

/-! ### and, or, not, if -/
def dAnd (a b : TD) : TD := fun e => (a e).bind fun p => if p.1 = true then b p.2 else some (false, p.2)
def dOr (a b : TD) : TD := fun e => (a e).bind fun p => if p.1 = true then some (true, p.2) else b p.2
def dNot (a : TD) : TD := fun e => (a e).map fun p => (!p.1, p.2)
theorem sem_and {t u : TT} {f g : TD} (h : SemT K t f) (h' : SemT K u g) : SemT K (tAnd t u) (dAnd f g) := by
  intro G F e σ H k e' Q rep hf q
  unfold dAnd at hf
  simp only [Option.bind_eq_some_iff] at hf
  obtain ⟨⟨b, e1⟩, h1, hf⟩ := hf
  refine h G F e σ H b e1 _ rep h1 fun F1 H1 rep1 s1 => ?_
  cases b with
  | true => exact iteT (h' G F1 e1 σ H1 k e' _ rep1 (by simpa using hf) fun F2 H2 rep2 s2 => q F2 H2 rep2 (s1.trans s2))
  | false => simp at hf; obtain ⟨rfl, rfl⟩ := hf; exact iteF (q F1 H1 rep1 s1)
theorem sem_or {t u : TT} {f g : TD} (h : SemT K t f) (h' : SemT K u g) : SemT K (tOr t u) (dOr f g) := by
  intro G F e σ H k e' Q rep hf q
  unfold dOr at hf
  simp only [Option.bind_eq_some_iff] at hf
  obtain ⟨⟨b, e1⟩, h1, hf⟩ := hf
  refine h G F e σ H b e1 _ rep h1 fun F1 H1 rep1 s1 => ?_
  cases b with
  | false => exact iteF (h' G F1 e1 σ H1 k e' _ rep1 (by simpa using hf) fun F2 H2 rep2 s2 => q F2 H2 rep2 (s1.trans s2))
  | true => simp at hf; obtain ⟨rfl, rfl⟩ := hf; exact iteT (q F1 H1 rep1 s1)
variable {f g : TD} {rest : List Expr}
theorem pwd_and1 (h : PTd X K a f) : PWd X K (.BoolOp .And [a] pos) f := by
  obtain ⟨t, h, s⟩ := h; exact ⟨t, pw_and1 h, s⟩
theorem pwd_or1 (h : PTd X K a f) : PWd X K (.BoolOp .Or [a] pos) f := by
  obtain ⟨t, h, s⟩ := h; exact ⟨t, pw_or1 h, s⟩
theorem pwd_and (h : PTd X K a f) (h' : PWd X K (.BoolOp .And (b :: rest) pos) g) : PWd X K (.BoolOp .And (a :: b :: rest) pos) (dAnd f g) := by
  obtain ⟨t, h, s⟩ := h; obtain ⟨t', h', s'⟩ := h'; exact ⟨_, pw_and h h', sem_and s s'⟩
theorem pwd_or (h : PTd X K a f) (h' : PWd X K (.BoolOp .Or (b :: rest) pos) g) : PWd X K (.BoolOp .Or (a :: b :: rest) pos) (dOr f g) := by
  obtain ⟨t, h, s⟩ := h; obtain ⟨t', h', s'⟩ := h'; exact ⟨_, pw_or h h', sem_or s s'⟩
theorem ptd_w (h : PWd X K a f) : PTd X K a f := by
  obtain ⟨t, h, s⟩ := h; exact ⟨t, h.pt, s⟩
theorem ptd_not (h : PTd X K a f) : PTd X K (.UnaryOp .Not a pos) (dNot f) := by
  obtain ⟨t, h, s⟩ := h
  refine ⟨_, pt_not h, fun G F e σ H k e' Q rep hf q => ?_⟩
  unfold dNot at hf
  simp only [Option.map_eq_some_iff] at hf
  obtain ⟨⟨b, e1⟩, h1, hf⟩ := hf
  cases hf
  exact s G F e σ H b e1 _ rep h1 q
/-- as values, of bools -/
def dAndV (a b : XD) : XD := fun e => (dB a e).bind fun p => if p.1 = true then b p.2 else some (.dat (.bool false), p.2)
def dOrV (a b : XD) : XD := fun e => (dB a e).bind fun p => if p.1 = true then some (.dat (.bool true), p.2) else b p.2
theorem ped_one {op} (h : PEd X K a fa) : PEd X K (.BoolOp op [a] pos) fa := by
  obtain ⟨t, h, s⟩ := h; exact ⟨t, pe_one h, s⟩
theorem ped_and (h : PEd X K a fa) (h' : PEd X K (.BoolOp .And (b :: rest) pos) fb) : PEd X K (.BoolOp .And (a :: b :: rest) pos) (dAndV fa fb) := by
  obtain ⟨t, h, s⟩ := h; obtain ⟨t', h', s'⟩ := h'
  refine ⟨_, pe_and h h', fun G F e σ H r e' Q rep hf q => ?_⟩
  unfold dAndV at hf
  simp only [Option.bind_eq_some_iff] at hf
  obtain ⟨⟨k, e1⟩, h1, hf⟩ := hf
  refine s G F e σ H _ e1 _ rep (dB_some h1) fun v F1 H1 rep1 s1 a1 => ?_
  refine ⟨k, at_bool a1, ?_⟩
  cases k with
  | true => exact iteT (s' G F1 e1 σ H1 r e' Q rep1 (by simpa using hf) fun v F2 H2 rep2 s2 a2 => q v F2 H2 rep2 (s1.trans s2) a2)
  | false => simp at hf; obtain ⟨rfl, rfl⟩ := hf; exact iteF (q _ F1 H1 rep1 s1 (.bl false))
theorem ped_or (h : PEd X K a fa) (h' : PEd X K (.BoolOp .Or (b :: rest) pos) fb) : PEd X K (.BoolOp .Or (a :: b :: rest) pos) (dOrV fa fb) := by
  obtain ⟨t, h, s⟩ := h; obtain ⟨t', h', s'⟩ := h'
  refine ⟨_, pe_or h h', fun G F e σ H r e' Q rep hf q => ?_⟩
  unfold dOrV at hf
  simp only [Option.bind_eq_some_iff] at hf
  obtain ⟨⟨k, e1⟩, h1, hf⟩ := hf
  refine s G F e σ H _ e1 _ rep (dB_some h1) fun v F1 H1 rep1 s1 a1 => ?_
  refine ⟨k, at_bool a1, ?_⟩
  cases k with
  | false => exact iteF (s' G F1 e1 σ H1 r e' Q rep1 (by simpa using hf) fun v F2 H2 rep2 s2 a2 => q v F2 H2 rep2 (s1.trans s2) a2)
  | true => simp at hf; obtain ⟨rfl, rfl⟩ := hf; exact iteT (q _ F1 H1 rep1 s1 (.bl true))
def dNotV (a : XD) : XD := fun e => (dB a e).map fun p => (.dat (.bool (!p.1)), p.2)
theorem ped_not (h : PEd X K a fa) : PEd X K (.UnaryOp .Not a pos) (dNotV fa) := by
  obtain ⟨t, h, s⟩ := h
  refine ⟨_, pe_not h, fun G F e σ H r e' Q rep hf q => ?_⟩
  unfold dNotV at hf
  simp only [Option.map_eq_some_iff] at hf
  obtain ⟨⟨k, e1⟩, h1, hf⟩ := hf
  cases hf
  refine s G F e σ H _ e1 _ rep (dB_some h1) fun v F1 H1 rep1 s1 a1 => ?_
  exact ⟨k, at_bool a1, q _ F1 H1 rep1 s1 (.bl _)⟩
def dIf (c : TD) (a b : XD) : XD := fun e => (c e).bind fun p => if p.1 = true then a p.2 else b p.2
theorem ped_if (hc : PTd X K c f) (ha : PEd X K a fa) (hb : PEd X K b fb) : PEd X K (.IfExp c a b pos) (dIf f fa fb) := by
  obtain ⟨tc, hc, sc⟩ := hc; obtain ⟨ta, ha, sa⟩ := ha; obtain ⟨tb, hb, sb⟩ := hb
  refine ⟨_, pe_ifExp hc ha hb, fun G F e σ H r e' Q rep hf q => ?_⟩
  unfold dIf at hf
  simp only [Option.bind_eq_some_iff] at hf
  obtain ⟨⟨k, e1⟩, h1, hf⟩ := hf
  refine sc G F e σ H k e1 _ rep h1 fun F1 H1 rep1 s1 => ?_
  cases k with
  | true => exact iteT (sa G F1 e1 σ H1 r e' Q rep1 (by simpa using hf) fun v F2 H2 rep2 s2 a2 => q v F2 H2 rep2 (s1.trans s2) a2)
  | false => exact iteF (sb G F1 e1 σ H1 r e' Q rep1 (by simpa using hf) fun v F2 H2 rep2 s2 a2 => q v F2 H2 rep2 (s1.trans s2) a2)

/-! ### truth -/
def D.truth : D → Option Bool
  | .none => some false
  | .bool b => some b
  | .int i => some (i != 0)
  | .str y => if y.length ≤ sizeLine then some ((y.length : Int) != 0) else none
  | .list ds => some (!ds.isEmpty)
  | .tuple ds => some (!ds.isEmpty)
  | .dict _ => none
theorem AtL.isEmpty {K : PySem.W.Frag} {F : Hp} {xs : List V} {ds : List D} (h : AtL K F xs ds) : xs.isEmpty = ds.isEmpty := by cases h <;> rfl
theorem Top.truth {K : PySem.W.Frag} {F H : Hp} {v : V} {d : D} {k : Bool} (s : Same F H) (h : Top K F H v d) (g : d.truth = some k) : TruV K v H k := by
  cases d with
  | none => rw [h.none]; cases g; rfl
  | bool b => rw [h.bool]; cases g; rfl
  | int b => rw [h.int]; cases g; rfl
  | str y =>
    rw [h.str]
    simp only [D.truth] at g
    split at g
    · rename_i hl; cases g; exact ⟨hl, rfl⟩
    · cases g
  | list ds =>
    obtain ⟨a, xs, rfl, h1, h2⟩ := h.list s
    cases g
    exact .inl ⟨xs, .of h1, by rw [h2.isEmpty]⟩
  | tuple ds =>
    obtain ⟨a, xs, rfl, h1, h2⟩ := h.tuple s
    cases g
    exact .inr (.inl ⟨xs, h1, by rw [h2.isEmpty]⟩)
  | dict ds => cases g
def dTr (a : XD) : TD := fun e => (a e).bind fun p => (p.1.get p.2).bind fun x => (D.truth x).map fun b => (b, p.2)
theorem ptd_truth (g : Good X K k) (ha : PEd X K a fa) (he : ∀ whole, isTrue a X.env whole = (do let v ← whole; standAt a.pos; holding [v] (truthy v)) := by intro _; rfl) : PTd X K a (dTr fa) := by
  obtain ⟨ta, ha, sa⟩ := ha
  refine ⟨_, pt_truth ha he, fun G F e σ H b e' Q rep hf q => ?_⟩
  unfold dTr at hf
  simp only [Option.bind_eq_some_iff, Option.map_eq_some_iff] at hf
  obtain ⟨⟨ra, e1⟩, h1, x, hx, z, hz, hf⟩ := hf
  cases hf
  refine sa G F e σ H ra e1 _ rep h1 fun v F1 H1 rep1 s1 a1 => ?_
  exact ⟨b, by rw [g.K]; exact (a1.top rep1 hx).truth rep1.sub hz, q F1 H1 rep1 s1⟩

/-! ### argument lists -/
def dA0 : AD := fun e => some ([], e)
def dA1 (a : XD) (r : AD) : AD := fun e => (a e).bind fun p => (r p.2).map fun q => (p.1 :: q.1, q.2)
theorem pad_nil : PAd X K [] dA0 := ⟨_, pa_nil, fun G F e σ H rs e' Q rep hf q => by
  cases hf
  exact q [] F H rep (.refl _) rfl (fun i v r h => by simp at h)⟩
variable {es : List Expr} {fr : AD}
theorem pad_cons (ha : PEd X K a fa) (hr : PAd X K es fr) (hs : starEach (a :: es) X.env = (false, eval a X.env) :: starEach es X.env := by rfl) : PAd X K (a :: es) (dA1 fa fr) := by
  obtain ⟨ta, ha, sa⟩ := ha; obtain ⟨tr, hr, sr⟩ := hr
  refine ⟨_, pa_cons ha hr hs, fun G F e σ H rs e' Q rep hf q => ?_⟩
  unfold dA1 at hf
  simp only [Option.bind_eq_some_iff, Option.map_eq_some_iff] at hf
  obtain ⟨⟨ra, e1⟩, h1, ⟨rs', e2⟩, h2, hf⟩ := hf
  cases hf
  refine sa G F e σ H ra e1 _ rep h1 fun v F1 H1 rep1 s1 a1 => ?_
  refine sr G F1 e1 σ H1 rs' e2 _ rep1 h2 fun vs F2 H2 rep2 s2 hl a2 => ?_
  refine q (v :: vs) F2 H2 rep2 (s1.trans s2) (by simpa using hl) fun i w r hw hr hg => ?_
  cases i with
  | zero => simp at hw hr; subst hw; subst hr; exact a1.later s2 hg
  | succ i => exact a2 i w r (by simpa using hw) (by simpa using hr) hg
/-- the data of operands -/
def gets (e : Env) : List R → Option (List D)
  | [] => some []
  | r :: rs => (r.get e).bind fun d => (gets e rs).map fun ds => d :: ds
inductive TopL (K : PySem.W.Frag) (F H : Hp) : List V → List D → Prop
  | nil : TopL K F H [] []
  | cons {v : V} {vs : List V} {d : D} {ds : List D} : Top K F H v d → TopL K F H vs ds → TopL K F H (v :: vs) (d :: ds)
theorem tops {F H : Hp} {e : Env} {σ : St} (rep : Rep K G F e σ H) : ∀ {vs : List V} {rs : List R} {ds : List D}, vs.length = rs.length → (∀ (i : Nat) (v : V) (r : R), vs[i]? = some v → rs[i]? = some r → (r.get e).isSome = true → RAt K F e σ v r) →
    gets e rs = some ds → TopL K F H vs ds
  | [], [], ds, _, _, h => by cases h; exact .nil
  | v :: vs, r :: rs, ds, hl, ha, h => by
    simp only [gets, Option.bind_eq_some_iff, Option.map_eq_some_iff] at h
    obtain ⟨d, h1, ds', h2, rfl⟩ := h
    exact .cons ((ha 0 v r rfl rfl (by rw [h1]; rfl)).top rep h1) (tops rep (by simpa using hl) (fun i v r h h' => ha (i + 1) v r (by simpa using h) (by simpa using h')) h2)
  | [], _ :: _, _, hl, _, _ => by simp at hl
  | _ :: _, [], _, hl, _, _ => by simp at hl

/-! ### built-in calls -/
def OpA (K : PySem.W.Frag) (r : List V → Hp → VK → Prop) (g : List D → Option D) : Prop := ∀ (F H : Hp) (vs : List V) (xs : List D) (z : D) (Q : VK), Same F H → TopL K F H vs xs → g xs = some z →
  (∀ w F' H', Adds F H F' H' → At K F' w z → Q w H') → r vs H Q
theorem OpA.or {K : PySem.W.Frag} {r r' : List V → Hp → VK → Prop} {g g' : List D → Option D} (h : OpA K r g) (h' : OpA K r' g') : OpA K (fun xs H Q => r xs H Q ∨ r' xs H Q) (fun x => (g x).or (g' x)) := by
  intro F H vs xs z Q s a hz q
  dsimp only at hz
  cases hg : g xs with
  | some w => rw [hg] at hz; simp at hz; subst hz; exact .inl (h F H vs xs w Q s a hg q)
  | none => rw [hg] at hz; simp at hz; exact .inr (h' F H vs xs z Q s a hz q)
def dCB (g : List D → Option D) (fa : AD) : XD := fun e => (fa e).bind fun p => (gets p.2 p.1).bind fun xs => (g xs).map fun z => (.dat z, p.2)
theorem sem_cb {r : List V → Hp → VK → Prop} {g : List D → Option D} {t : TA} {fa : AD} (h : OpA K r g) (sa : SemA K t fa) : SemE K (tCB r t) (dCB g fa) := by
  intro G F e σ H r' e' Q rep hf q
  unfold dCB at hf
  simp only [Option.bind_eq_some_iff, Option.map_eq_some_iff] at hf
  obtain ⟨⟨rs, e1⟩, h1, xs, hx, z, hz, hf⟩ := hf
  cases hf
  refine sa G F e σ H rs e1 _ rep h1 fun vs F1 H1 rep1 s1 hl a1 => ?_
  refine h F1 H1 vs xs z Q rep1.sub (tops rep1 hl a1 hx) hz fun w F2 H2 ad aw => ?_
  exact q w F2 H2 (rep1.adds ad) (s1.trans ad.ff) aw
variable {x id T : Str} {p : Pos}
theorem ped_callB {id : String} {r : List V → Hp → VK → Prop} {g : List D → Option D} (hc : CallR X (.builtin id) r) (h : OpA K r g) (hg : Gl X x) (hm : X.mg x = none) (hv : bootBuiltins x = some (.builtin id)) (ha : PAd X K (a :: es) fr) (hn : x ≠ "__name__" := by decide) (hdb : (x == ("__debug__" : Str)) = false := by decide)
    (he : starEach (a :: es) X.env = (false, eval a X.env) :: starEach es X.env := by rfl) (hpl : (backTo pos (starEach es X.env)).any (·.1) = false := by rfl) : PEd X K (.Call (.Name x p) (a :: es) [] pos) (dCB g fr) := by
  obtain ⟨t, ha, sa⟩ := ha
  exact ⟨_, pe_callB hc hg hm hv ha hn hdb he hpl, sem_cb h sa⟩
theorem ped_callTy {T : String} {r : List V → Hp → VK → Prop} {g : List D → Option D} (hc : CallR X (.type T) r) (h : OpA K r g) (hg : Gl X x) (hm : X.mg x = none) (hv : bootBuiltins x = some (.type T)) (ha : PAd X K (a :: es) fr) (hn : x ≠ "__name__" := by decide) (hdb : (x == ("__debug__" : Str)) = false := by decide)
    (he : starEach (a :: es) X.env = (false, eval a X.env) :: starEach es X.env := by rfl) (hpl : (backTo pos (starEach es X.env)).any (·.1) = false := by rfl) : PEd X K (.Call (.Name x p) (a :: es) [] pos) (dCB g fr) := by
  obtain ⟨t, ha, sa⟩ := ha
  exact ⟨_, pe_callTy hc hg hm hv ha hn hdb he hpl, sem_cb h sa⟩
end
end HD

namespace HD
open PySem PySem.Spec PyProof.Rows L2

/-! ### stores to slots -/
def setC (e : Env) (i : Nat) (c : Cell) : Option Env := match e[i]? with
  | none => none
  | some (.io _) => none
  | some _ => some (e.set i c)
theorem setC_some {e e' : Env} {i : Nat} {c : Cell} (h : setC e i c = some e') : ∃ c0, e[i]? = some c0 ∧ (∀ d, c0 ≠ .io d) ∧ e' = e.set i c := by
  unfold setC at h
  cases hc : e[i]? with
  | none => rw [hc] at h; cases h
  | some c0 =>
    rw [hc] at h
    cases c0 with
    | io d => cases h
    | un => cases h; exact ⟨_, rfl, fun d z => (by cases z), rfl⟩
    | dat d => cases h; exact ⟨_, rfl, fun d z => (by cases z), rfl⟩
    | own d => cases h; exact ⟨_, rfl, fun d z => (by cases z), rfl⟩
section
variable {K : PySem.W.Frag} {G : Gd} {F H H' : Hp} {e e' : Env} {σ : St} {v : V} {d : D} {i : Nat} {p : Addr}
theorem Rep.setDat (rep : Rep K G F e σ H) (ha : At K F v d) (h : setC e i (.dat d) = some e') : Rep K G F e' (σ.set i (some v)) H := by
  obtain ⟨c0, h0, hio, rfl⟩ := setC_some h
  have hlt : i < e.length := (List.getElem?_eq_some_iff.mp h0).1
  have hlt' : i < σ.length := by rw [← rep.len]; exact hlt
  have get_set : ∀ {j : Nat} {c : Cell} {d' : D}, (e.set i (.dat d))[j]? = some c → c.held = some d' → j ≠ i ∧ e[j]? = some c := by
    intro j c d' hj hc
    by_cases e1 : j = i
    · subst e1; rw [List.getElem?_set_self hlt] at hj; cases hj; cases hc
    · exact ⟨e1, by rw [List.getElem?_set_ne (Ne.symm e1)] at hj; exact hj⟩
  refine ⟨rep.sub, rep.sub0, rep.fr, rep.frame, by rw [List.length_set, List.length_set]; exact rep.len, ?_, ?_, ?_, ?_⟩
  · intro j d' hj
    by_cases e1 : j = i
    · subst e1; rw [List.getElem?_set_self hlt] at hj; cases hj; exact ⟨v, List.getElem?_set_self hlt', ha⟩
    · rw [List.getElem?_set_ne (Ne.symm e1)] at hj ⊢
      exact rep.dat j d' hj
  · intro j c d' hj hc
    obtain ⟨ne, hj⟩ := get_set hj hc
    rw [List.getElem?_set_ne (Ne.symm ne)]
    exact rep.own j c d' hj hc
  · intro j k c c' d1 d2 q hj hc hk hc' s1 s2
    have a1 := get_set hj hc
    have a2 := get_set hk hc'
    rw [List.getElem?_set_ne (Ne.symm a1.1)] at s1
    rw [List.getElem?_set_ne (Ne.symm a2.1)] at s2
    exact rep.sep j k c c' d1 d2 q a1.2 hc a2.2 hc' s1 s2
  · intro q hq
    obtain ⟨q1, d', q2⟩ := rep.io q hq
    have : q.1 ≠ i := fun z => by rw [z, h0] at q2; cases q2; exact hio d' rfl
    rw [List.getElem?_set_ne (Ne.symm this), List.getElem?_set_ne (Ne.symm this)]
    exact ⟨q1, d', q2⟩
theorem Rep.setOwn (rep : Rep K G F e σ H) (fr : Fresh K G F e σ H p d) (h : setC e i (.own d) = some e') : Rep K G F e' (σ.set i (some (.ref p))) H := by
  obtain ⟨c0, h0, hio, rfl⟩ := setC_some h
  obtain ⟨o, ho, hw⟩ := fr.ob
  have hlt : i < e.length := (List.getElem?_eq_some_iff.mp h0).1
  have hlt' : i < σ.length := by rw [← rep.len]; exact hlt
  refine ⟨rep.sub, rep.sub0, rep.fr, rep.frame, by rw [List.length_set, List.length_set]; exact rep.len, ?_, ?_, ?_, ?_⟩
  · intro j d' hj
    by_cases e1 : j = i
    · subst e1; rw [List.getElem?_set_self hlt] at hj; cases hj
    · rw [List.getElem?_set_ne (Ne.symm e1)] at hj ⊢
      exact rep.dat j d' hj
  · intro j c d' hj hc
    by_cases e1 : j = i
    · subst e1
      rw [List.getElem?_set_self hlt] at hj
      cases hj
      cases hc
      exact ⟨p, o, List.getElem?_set_self hlt', ho, hw, fr.f, fun _ => fr.h0, fun ⟨_, z⟩ => by cases z⟩
    · rw [List.getElem?_set_ne (Ne.symm e1)] at hj ⊢
      exact rep.own j c d' hj hc
  · intro j k c c' d1 d2 q hj hc hk hc' s1 s2
    by_cases e1 : j = i
    · by_cases e2 : k = i
      · rw [e1, e2]
      · subst e1
        rw [List.getElem?_set_self hlt'] at s1
        cases s1
        rw [List.getElem?_set_ne (Ne.symm e2)] at s2 hk
        exact (fr.ne k c' d2 hk hc' s2).elim
    · by_cases e2 : k = i
      · subst e2
        rw [List.getElem?_set_self hlt'] at s2
        cases s2
        rw [List.getElem?_set_ne (Ne.symm e1)] at s1 hj
        exact (fr.ne j c d1 hj hc s1).elim
      · rw [List.getElem?_set_ne (Ne.symm e1)] at s1 hj
        rw [List.getElem?_set_ne (Ne.symm e2)] at s2 hk
        exact rep.sep j k c c' d1 d2 q hj hc hk hc' s1 s2
  · intro q hq
    obtain ⟨q1, d', q2⟩ := rep.io q hq
    have : q.1 ≠ i := fun z => by rw [z, h0] at q2; cases q2; exact hio d' rfl
    rw [List.getElem?_set_ne (Ne.symm this), List.getElem?_set_ne (Ne.symm this)]
    exact ⟨q1, d', q2⟩
/-- the held object of a slot changed -/
def setH (e : Env) (i : Nat) (d : D) : Option Env := match e[i]? with
  | some (.own _) => some (e.set i (.own d))
  | some (.io _) => some (e.set i (.io d))
  | _ => none
theorem setH_some {e e' : Env} {i : Nat} {d : D} (h : setH e i d = some e') : ∃ c d0 c', e[i]? = some c ∧ c.held = some d0 ∧ e' = e.set i c' ∧ c'.held = some d ∧ ((∃ d', c' = .own d') → ∃ d', c = .own d') ∧ ((∃ d', c' = .io d') ↔ ∃ d', c = .io d') := by
  unfold setH at h
  split at h
  · rename_i d0 hc; cases h; exact ⟨_, d0, _, hc, rfl, rfl, rfl, fun _ => ⟨_, rfl⟩, ⟨fun ⟨_, z⟩ => (by cases z), fun ⟨_, z⟩ => (by cases z)⟩⟩
  · rename_i d0 hc; cases h; exact ⟨_, d0, _, hc, rfl, rfl, rfl, fun ⟨_, z⟩ => (by cases z), ⟨fun _ => ⟨_, rfl⟩, fun _ => ⟨_, rfl⟩⟩⟩
  · cases h
theorem Rep.write {o o' : HO} (rep : Rep K G F e σ H) (hs : σ[i]? = some (some (.ref p))) (hw : Own K F o' d) (h : setH e i d = some e') : Rep K G F e' σ (upd H p o') := by
  obtain ⟨c, d0, c', h0, h1, rfl, h2, h3, h4⟩ := setH_some h
  obtain ⟨p', o0, g1, g2, g3, g4, g5, g6⟩ := rep.own i c d0 h0 h1
  rw [hs] at g1
  cases g1
  have hlt : i < e.length := (List.getElem?_eq_some_iff.mp h0).1
  refine ⟨?_, rep.sub0, rep.fr, ?_, by rw [List.length_set]; exact rep.len, ?_, ?_, ?_, ?_⟩
  · intro b x hb
    rw [upd_ne (show b ≠ p from fun z => by rw [z, g4] at hb; cases hb)]
    exact rep.sub b x hb
  · intro b x hb hn
    rw [upd_ne]
    · exact rep.frame b x hb hn
    · intro z
      subst z
      cases c with
      | own q => rw [g5 ⟨q, rfl⟩] at hb; cases hb
      | io q => exact hn (List.mem_map.mpr ⟨(i, b), g6 ⟨q, rfl⟩, rfl⟩)
      | _ => cases h1
  · intro j d' hj
    by_cases e1 : j = i
    · subst e1; rw [List.getElem?_set_self hlt] at hj; cases hj; cases h2
    · rw [List.getElem?_set_ne (Ne.symm e1)] at hj
      exact rep.dat j d' hj
  · intro j c1 d' hj hc
    by_cases e1 : j = i
    · subst e1
      rw [List.getElem?_set_self hlt] at hj
      cases hj
      rw [h2] at hc
      cases hc
      exact ⟨p, o', hs, upd_same, hw, g4, fun z => g5 (h3 z), fun z => g6 (h4.mp z)⟩
    · rw [List.getElem?_set_ne (Ne.symm e1)] at hj
      obtain ⟨p', o1, q1, q2, q3, q4, q5, q6⟩ := rep.own j c1 d' hj hc
      refine ⟨p', o1, q1, ?_, q3, q4, q5, q6⟩
      rw [upd_ne (show p' ≠ p from fun z => e1 (rep.sep j i c1 c d' d0 p' hj hc h0 h1 q1 (by rw [z]; exact hs)))]
      exact q2
  · have back : ∀ {j : Nat} {c1 : Cell} {d' : D}, (e.set i c')[j]? = some c1 → c1.held = some d' → ∃ c2 d2, e[j]? = some c2 ∧ c2.held = some d2 := by
      intro j c1 d' hj hc
      by_cases e1 : j = i
      · subst e1; exact ⟨c, d0, h0, h1⟩
      · rw [List.getElem?_set_ne (Ne.symm e1)] at hj; exact ⟨c1, d', hj, hc⟩
    intro j k c1 c2 d1 d2 q hj hc hk hc' s1 s2
    obtain ⟨_, _, a1, a2⟩ := back hj hc
    obtain ⟨_, _, b1, b2⟩ := back hk hc'
    exact rep.sep j k _ _ _ _ q a1 a2 b1 b2 s1 s2
  · intro q hq
    obtain ⟨q1, d', q2⟩ := rep.io q hq
    refine ⟨q1, ?_⟩
    by_cases e1 : q.1 = i
    · rw [e1] at q2 ⊢
      rw [h0] at q2
      cases q2
      obtain ⟨d2, z⟩ := h4.mpr ⟨d', rfl⟩
      exact ⟨d2, by rw [List.getElem?_set_self hlt, z]⟩
    · exact ⟨d', by rw [List.getElem?_set_ne (Ne.symm e1)]; exact q2⟩
end

section
variable {X : Cx} {K : PySem.W.Frag} {k : Nat} {ex a b c : Expr} {pos pos' : Pos} {f fa fb : XD} {g : ND} {t u : SD} {st : Stmt} {rest : List Stmt}
/-! ### blocks -/
def dNx : SD := fun e => some (.nx e)
def dSeq (t u : SD) : SD := fun e => (t e).bind fun o => match o with
  | .nx e' => u e'
  | o => some o
theorem pssd_nil : PSsd X K [] dNx := ⟨_, pss_nil, fun G F e σ H o Dn rep hf q => by cases hf; exact q σ F H rep (.refl _)⟩
theorem Post.mono {G : Gd} {F F' : Hp} {o : Out} {Dn : Ends} (s : Same F F') (h : Post K G F o Dn) : Post K G F' o Dn := by
  cases o with
  | nx e => exact fun σ F2 H2 r s2 => h σ F2 H2 r (s.trans s2)
  | bk e => exact fun σ F2 H2 r s2 => h σ F2 H2 r (s.trans s2)
  | ct e => exact fun σ F2 H2 r s2 => h σ F2 H2 r (s.trans s2)
  | rt d e => exact fun v σ F2 H2 r s2 => h v σ F2 H2 r (s.trans s2)
  | ro d e => exact fun v σ F2 H2 r s2 => h v σ F2 H2 r (s.trans s2)
theorem pssd_cons (h1 : PSd X K st t) (h2 : PSsd X K rest u) : PSsd X K (st :: rest) (dSeq t u) := by
  obtain ⟨t1, h1, s1⟩ := h1
  obtain ⟨t2, h2, s2⟩ := h2
  refine ⟨_, pss_cons h1 h2, fun G F e σ H o Dn rep hf q => ?_⟩
  unfold dSeq at hf
  simp only [Option.bind_eq_some_iff] at hf
  obtain ⟨o1, hf1, hf2⟩ := hf
  refine s1 G F e σ H o1 _ rep hf1 ?_
  cases o1 with
  | nx e1 => exact fun σ1 F1 H1 rep1 ss => s2 G F1 e1 σ1 H1 o Dn rep1 hf2 (q.mono ss)
  | _ => cases hf2; exact q
theorem pssd_one (h1 : PSd X K st t) : PSsd X K [st] t := by
  obtain ⟨t1, h1, s1⟩ := h1
  exact ⟨t1, pss_one h1, s1⟩
theorem psd_pass : PSd X K (.Pass pos) dNx := ⟨_, ps_pass, fun G F e σ H o Dn rep hf q => by cases hf; exact q σ F H rep (.refl _)⟩
def dBrk : SD := fun e => some (.bk e)
def dCont : SD := fun e => some (.ct e)
theorem psd_break : PSd X K (.Break pos) dBrk := ⟨_, ps_break, fun G F e σ H o Dn rep hf q => by cases hf; exact q σ F H rep (.refl _)⟩
theorem psd_continue : PSd X K (.Continue pos) dCont := ⟨_, ps_continue, fun G F e σ H o Dn rep hf q => by cases hf; exact q σ F H rep (.refl _)⟩
def dIfS (c : TD) (t u : SD) : SD := fun e => (c e).bind fun p => if p.1 = true then t p.2 else u p.2
theorem psd_if {fc : TD} {bt bu : List Stmt} (hc : PTd X K c fc) (ht : PSsd X K bt t) (hu : PSsd X K bu u) : PSd X K (.If c bt bu pos) (dIfS fc t u) := by
  obtain ⟨tc, hc, sc⟩ := hc
  obtain ⟨t1, ht, s1⟩ := ht
  obtain ⟨t2, hu, s2⟩ := hu
  refine ⟨_, ps_if hc ht hu, fun G F e σ H o Dn rep hf q => ?_⟩
  unfold dIfS at hf
  simp only [Option.bind_eq_some_iff] at hf
  obtain ⟨⟨b, e1⟩, hf1, hf2⟩ := hf
  refine sc G F e σ H b e1 _ rep hf1 fun F1 H1 rep1 ss => ?_
  cases b with
  | true => exact iteT (s1 G F1 e1 σ H1 o Dn rep1 (by simpa using hf2) (q.mono ss))
  | false => exact iteF (s2 G F1 e1 σ H1 o Dn rep1 (by simpa using hf2) (q.mono ss))
def dRet (f : XD) : SD := fun e => (f e).bind fun p => (p.1.take p.2).map fun q => .rt q.1 q.2
theorem psd_ret (h : PEd X K ex f) : PSd X K (.Return (some ex) pos) (dRet f) := by
  obtain ⟨t1, h, s⟩ := h
  refine ⟨_, ps_ret h, fun G F e σ H o Dn rep hf q => ?_⟩
  unfold dRet at hf
  simp only [Option.bind_eq_some_iff, Option.map_eq_some_iff] at hf
  obtain ⟨⟨r, e1⟩, hf1, ⟨d, e2⟩, hf2, rfl⟩ := hf
  refine s G F e σ H r e1 _ rep hf1 fun v F1 H1 rep1 ss a1 => ?_
  obtain ⟨F2, rep2, ss2, a2⟩ := rep1.take a1 hf2
  exact q v σ F2 H1 rep2 (ss.trans ss2) a2
def dRetN : SD := fun e => some (.rt .none e)
theorem psd_retN : PSd X K (.Return none pos) dRetN := ⟨_, ps_retN, fun G F e σ H o Dn rep hf q => by cases hf; exact q .non σ F H rep (.refl _) .non⟩
def dDrop (f : XD) : SD := fun e => (f e).map fun p => .nx p.2
theorem psd_expr (h : PEd X K ex f) (hs : swapsWith ex none pos.line X.env = pure false := by rfl) : PSd X K (.Expr ex pos) (dDrop f) := by
  obtain ⟨t1, h, s⟩ := h
  refine ⟨_, ps_expr h hs, fun G F e σ H o Dn rep hf q => ?_⟩
  unfold dDrop at hf
  simp only [Option.map_eq_some_iff] at hf
  obtain ⟨⟨r, e1⟩, hf1, rfl⟩ := hf
  exact s G F e σ H r e1 _ rep hf1 fun v F1 H1 rep1 ss a1 => q σ F1 H1 rep1 ss
/-! ### assignments -/
def dSet (i : Nat) (f : XD) : SD := fun e => (f e).bind fun p => (p.1.take p.2).bind fun q => (setC q.2 i (.dat q.1)).map .nx
theorem sem_set {i : Nat} {te : TE} (s : SemE K te f) : SemS K (tAsg te (gName i)) (dSet i f) := by
  intro G F e σ H o Dn rep hf q
  unfold dSet at hf
  simp only [Option.bind_eq_some_iff, Option.map_eq_some_iff] at hf
  obtain ⟨⟨r, e1⟩, hf1, ⟨d, e2⟩, hf2, e3, hf3, rfl⟩ := hf
  refine s G F e σ H r e1 _ rep hf1 fun v F1 H1 rep1 ss a1 => ?_
  obtain ⟨F2, rep2, ss2, a2⟩ := rep1.take a1 hf2
  exact q _ F2 H1 (rep2.setDat a2 hf3) (ss.trans ss2)
theorem psd_set {i : Nat} {x : Str} (h : PEd X K ex f) (hN : X.N.Nodup) (hi : X.N[i]? = some x := by rfl) (hx : Loc X.env.scope x := by first | exact .inl rfl | exact .inr rfl) (hs : swapsWith ex (some (.Name x pos')) pos.line X.env = pure false := by rfl)
    (hf : X.fn x = true ∨ X.env.scope.names.lookup x = some .local := by first | exact .inl rfl | exact .inr rfl | assumption) : PSd X K (.Assign [.Name x pos'] ex pos) (dSet i f) := by
  obtain ⟨t1, h, s⟩ := h
  exact ⟨_, ps_set hN hi hx h hs hf, sem_set s⟩
def dSetN (i : Nat) (g : ND) : SD := fun e => (g e).bind fun p => (setC p.2 i (.own p.1)).map .nx
theorem sem_setN {i : Nat} {te : TE} (s : SemN K te g) : SemS K (tAsg te (gName i)) (dSetN i g) := by
  intro G F e σ H o Dn rep hf q
  unfold dSetN at hf
  simp only [Option.bind_eq_some_iff, Option.map_eq_some_iff] at hf
  obtain ⟨⟨d, e1⟩, hf1, e3, hf3, rfl⟩ := hf
  refine s G F e σ H d e1 _ rep hf1 fun p F1 H1 rep1 ss fr => ?_
  exact q _ F1 H1 (rep1.setOwn fr hf3) ss
theorem psd_setN {i : Nat} {x : Str} (h : PNd X K ex g) (hN : X.N.Nodup) (hi : X.N[i]? = some x := by rfl) (hx : Loc X.env.scope x := by first | exact .inl rfl | exact .inr rfl) (hs : swapsWith ex (some (.Name x pos')) pos.line X.env = pure false := by rfl)
    (hf : X.fn x = true ∨ X.env.scope.names.lookup x = some .local := by first | exact .inl rfl | exact .inr rfl | assumption) : PSd X K (.Assign [.Name x pos'] ex pos) (dSetN i g) := by
  obtain ⟨t1, h, s⟩ := h
  exact ⟨_, ps_set hN hi hx h hs hf, sem_setN s⟩
/-! targets; ws: the slots that are written -/
abbrev GD := D → Env → Option Env
abbrev GDs := List D → Env → Option Env
def offS (ws : List Nat) (σ σ' : St) : Prop := σ'.length = σ.length ∧ ∀ i, i ∉ ws → σ'[i]? = σ[i]?
theorem offS.refl {ws : List Nat} {σ : St} : offS ws σ σ := ⟨rfl, fun _ _ => rfl⟩
def SemG (K : PySem.W.Frag) (ws : List Nat) (g : TG) (f : GD) : Prop := ∀ (G : Gd) (F : Hp) (e : Env) (σ : St) (H : Hp) (v : V) (d : D) (e' : Env) (Q : St → Hp → Prop), Rep K G F e σ H → At K F v d → f d e = some e' →
  (∀ σ' F' H', Rep K G F' e' σ' H' → Same F F' → offS ws σ σ' → Q σ' H') → g v σ H Q
def SemGs (K : PySem.W.Frag) (ws : List Nat) (g : TGs) (f : GDs) : Prop := ∀ (G : Gd) (F : Hp) (e : Env) (σ : St) (H : Hp) (vs : List V) (ds : List D) (e' : Env) (Q : St → Hp → Prop), Rep K G F e σ H → AtL K F vs ds → f ds e = some e' →
  (∀ σ' F' H', Rep K G F' e' σ' H' → Same F F' → offS ws σ σ' → Q σ' H') → g vs σ H Q
def PGd (X : Cx) (K : PySem.W.Frag) (ws : List Nat) (ex : Expr) (f : GD) : Prop := ∃ t, PG X ex t ∧ SemG K ws t f
def PGsd (X : Cx) (K : PySem.W.Frag) (ws : List Nat) (ex : List Expr) (f : GDs) : Prop := ∃ t, PGs X ex t ∧ SemGs K ws t f
def gdName (i : Nat) : GD := fun d e => setC e i (.dat d)
theorem pgd_name {i : Nat} {x : Str} (hN : X.N.Nodup) (hi : X.N[i]? = some x := by rfl) (hx : Loc X.env.scope x := by first | exact .inl rfl | exact .inr rfl) (hf : X.fn x = true ∨ X.env.scope.names.lookup x = some .local := by first | exact .inl rfl | exact .inr rfl | assumption) : PGd X K [i] (.Name x pos) (gdName i) := by
  refine ⟨_, pg_name hN hi hx hf, fun G F e σ H v d e' Q rep ha hf q => ?_⟩
  refine q _ F H (rep.setDat ha hf) (.refl _) ⟨List.length_set, fun j hj => ?_⟩
  rw [List.getElem?_set_ne (fun z => hj (by simp [z]))]
def gdNil : GDs := fun ds e => match ds with
  | [] => some e
  | _ => none
def gdCons (g : GD) (r : GDs) : GDs := fun ds e => match ds with
  | d :: ds => (g d e).bind fun e1 => r ds e1
  | [] => none
theorem pgsd_nil : PGsd X K [] [] gdNil := by
  refine ⟨_, pgs_nil, fun G F e σ H vs ds e' Q rep ha hf q => ?_⟩
  cases ha with
  | nil => cases hf; exact ⟨rfl, q σ F H rep (.refl _) .refl⟩
  | cons _ _ => cases hf
theorem pgsd_cons {es : List Expr} {g : GD} {r : GDs} {ws ws' : List Nat} (h1 : PGd X K ws ex g) (h2 : PGsd X K ws' es r) (hs : (assignEach (ex :: es) X.env).map (·.2) = assign ex X.env :: (assignEach es X.env).map (·.2) := by rfl) : PGsd X K (ws ++ ws') (ex :: es) (gdCons g r) := by
  obtain ⟨t1, h1, s1⟩ := h1
  obtain ⟨t2, h2, s2⟩ := h2
  refine ⟨_, pgs_cons h1 h2 hs, fun G F e σ H vs ds e' Q rep ha hf q => ?_⟩
  cases ha with
  | nil => cases hf
  | cons a1 a2 =>
    simp only [gdCons, Option.bind_eq_some_iff] at hf
    obtain ⟨e1, hf1, hf2⟩ := hf
    refine ⟨_, _, rfl, s1 G F e σ H _ _ e1 _ rep a1 hf1 fun σ1 F1 H1 rep1 ss o1 => ?_⟩
    refine s2 G F1 e1 σ1 H1 _ _ e' Q rep1 (a2.mono ss) hf2 fun σ2 F2 H2 rep2 ss2 o2 => ?_
    refine q σ2 F2 H2 rep2 (ss.trans ss2) ⟨o2.1.trans o1.1, fun i hi => ?_⟩
    rw [o2.2 i (fun z => hi (List.mem_append_right _ z)), o1.2 i fun z => hi (List.mem_append_left _ z)]
def gdTup (n : Nat) (r : GDs) : GD := fun d e => match d with
  | .tuple ds => if ds.length = n then r ds e else none
  | _ => none
theorem pgd_tup {es : List Expr} {kk : Nat} {r : GDs} {n : Nat} {ws : List Nat} (gd : Good X K k) (h : PGsd X K ws es r) (hn : (assignEach es X.env).length = n := by rfl) (hst : (assignEach es X.env).findIdx? (·.1) = none := by rfl) : PGd X K ws (.Tuple es kk pos) (gdTup n r) := by
  obtain ⟨t1, h, s⟩ := h
  refine ⟨_, pg_tup gd.calm h hn hst, fun G F e σ H v d e' Q rep ha hf q => ?_⟩
  cases ha with
  | tup h1 h2 =>
    simp only [gdTup] at hf
    split at hf
    · rename_i hl
      exact ⟨_, _, rfl, by rw [gd.K]; exact SqT.of (rep.sub _ _ h1), by rw [h2.len]; exact hl, s G F e σ H _ _ e' Q rep h2 hf q⟩
    · cases hf
  | _ => cases hf
def dAsg (f : XD) (g : GD) : SD := fun e => (f e).bind fun p => (p.1.take p.2).bind fun q => (g q.1 q.2).map .nx
theorem psd_asg {tg : Expr} {g : GD} {ws : List Nat} (h : PEd X K ex f) (hg : PGd X K ws tg g) (hs : swapsWithSole [tg] ex pos.line X.env = pure false := by rfl) (hw : swappedStores [tg] ex X.env = pure none := by rfl)
    (h1 : (assignEach [tg] X.env).map (·.2) = [assign tg X.env] := by rfl) : PSd X K (.Assign [tg] ex pos) (dAsg f g) := by
  obtain ⟨t1, h, s⟩ := h
  obtain ⟨t2, hg, sg⟩ := hg
  refine ⟨_, ps_asg h hg hs hw h1, fun G F e σ H o Dn rep hf q => ?_⟩
  unfold dAsg at hf
  simp only [Option.bind_eq_some_iff, Option.map_eq_some_iff] at hf
  obtain ⟨⟨r, e1⟩, hf1, ⟨d, e2⟩, hf2, e3, hf3, rfl⟩ := hf
  refine s G F e σ H r e1 _ rep hf1 fun v F1 H1 rep1 ss a1 => ?_
  obtain ⟨F2, rep2, ss2, a2⟩ := rep1.take a1 hf2
  exact sg G F2 e2 σ H1 v d e3 _ rep2 a2 hf3 fun σ3 F3 H3 rep3 ss3 _ => q σ3 F3 H3 rep3 (ss.trans (ss2.trans ss3))
/-- as data all operands -/
def takeAll (e : Env) : List R → Option (List D × Env)
  | [] => some ([], e)
  | r :: rs => (r.take e).bind fun p => (takeAll p.2 rs).map fun q => (p.1 :: q.1, q.2)
theorem R.take_get {e e' : Env} {r : R} {d : D} (h : r.take e = some (d, e')) : r.get e = some d := by
  cases r with
  | dat d' => cases h; rfl
  | slot i =>
    simp only [R.take] at h
    split at h
    · rename_i d' hc; cases h; exact cellAt_of hc rfl
    · cases h
theorem take_later {F : Hp} {e e' : Env} {σ : St} {r r' : R} {d : D} {v : V} (h : r.take e = some (d, e')) (g : (r'.get e').isSome = true) : (r'.get e).isSome = true := by
  cases r with
  | dat d' => cases h; exact g
  | slot i =>
    simp only [R.take] at h
    split at h
    · rename_i d' hc
      cases h
      cases r' with
      | dat _ => rfl
      | slot j =>
        simp only [R.get, cellAt] at g ⊢
        by_cases e1 : j = i
        · subst e1; rw [hc]; rfl
        · rw [List.getElem?_set_ne (Ne.symm e1)] at g; exact g
    · cases h
theorem Rep.takes {G : Gd} {σ : St} {H : Hp} : ∀ {rs : List R} {vs : List V} {F : Hp} {e e' : Env} {ds : List D}, Rep K G F e σ H → vs.length = rs.length → (∀ (i : Nat) (v : V) (r : R), vs[i]? = some v → rs[i]? = some r → (r.get e).isSome = true → RAt K F e σ v r) → takeAll e rs = some (ds, e') →
    ∃ F', Rep K G F' e' σ H ∧ Same F F' ∧ AtL K F' vs ds
  | [], [], F, e, e', ds, rep, _, _, h => by cases h; exact ⟨F, rep, .refl _, .nil⟩
  | r :: rs, v :: vs, F, e, e', ds, rep, hl, ha, h => by
    simp only [takeAll, Option.bind_eq_some_iff, Option.map_eq_some_iff] at h
    obtain ⟨⟨d, e1⟩, h1, ⟨ds', e2⟩, h2, h3⟩ := h
    cases h3
    obtain ⟨F1, rep1, ss1, a1⟩ := rep.take (ha 0 v r rfl rfl (by rw [R.take_get h1]; rfl)) h1
    obtain ⟨F2, rep2, ss2, a2⟩ := Rep.takes rep1 (by simpa using hl) (fun i v' r' hv hr hg => (ha (i + 1) v' r' (by simpa using hv) (by simpa using hr) (take_later (F := F) (σ := σ) (v := v) h1 hg)).later ss1 hg) h2
    exact ⟨F2, rep2, ss1.trans ss2, .cons (a1.mono ss2) a2⟩
  | [], _ :: _, _, _, _, _, _, hl, _, _ => by simp at hl
  | _ :: _, [], _, _, _, _, _, hl, _, _ => by simp at hl
/-- x, y = a, b -/
def dPar (i j : Nat) (fa : AD) : SD := fun e => (fa e).bind fun p => (takeAll p.2 p.1).bind fun q => match q.1 with
  | [x, y] => (setC q.2 i (.dat x)).bind fun e1 => (setC e1 j (.dat y)).map .nx
  | _ => none
theorem psd_par {i j : Nat} {x y : Str} {px py pt : Pos} {kt k2 pt2} {fa : AD} (gd : Good X K k) (ha : PAd X K [a, b] fa) (hi : X.N[i]? = some x := by rfl) (hj : X.N[j]? = some y := by rfl) (hij : i ≠ j := by decide)
    (hx : X.env.scope.names.lookup x = some .local := by rfl) (hy : X.env.scope.names.lookup y = some .local := by rfl)
    (hw : swappedStores [.Tuple [.Name x px, .Name y py] kt pt] (.Tuple [a, b] k2 pt2) X.env = pure (some [x, y]) := by rfl)
    (hs : swapsWithSole [.Tuple [.Name x px, .Name y py] kt pt] (.Tuple [a, b] k2 pt2) pos.line X.env = pure false := by rfl) :
    PSd X K (.Assign [.Tuple [.Name x px, .Name y py] kt pt] (.Tuple [a, b] k2 pt2) pos) (dPar i j fa) := by
  obtain ⟨t1, ha, sa⟩ := ha
  refine ⟨_, ps_par gd.calm gd.nd hi hj hij hx hy ha hw hs, fun G F e σ H o Dn rep hf q => ?_⟩
  unfold dPar at hf
  simp only [Option.bind_eq_some_iff] at hf
  obtain ⟨⟨rs, e1⟩, hf1, ⟨ds, e2⟩, hf2, hf3⟩ := hf
  dsimp only at hf3
  split at hf3
  · rename_i x' y'
    simp only [Option.bind_eq_some_iff, Option.map_eq_some_iff] at hf3
    obtain ⟨e3, hf3, e4, hf4, rfl⟩ := hf3
    refine sa G F e σ H rs e1 _ rep hf1 fun vs F1 H1 rep1 ss hl a1 => ?_
    obtain ⟨F2, rep2, ss2, a2⟩ := rep1.takes hl a1 hf2
    cases a2 with
    | cons b1 a2 => cases a2 with
      | cons b2 a2 => cases a2 with
        | nil =>
          refine ⟨_, _, rfl, ?_⟩
          exact q _ F2 H1 ((rep2.setDat b1 hf3).setDat b2 hf4) (ss.trans ss2)
  · cases hf3
/-- x op= e -/
def IpD (K : PySem.W.Frag) (r : TIp) (g : D → D → Option D) : Prop := Op2 K r g
def dAug (i : Nat) (g : D → D → Option D) (f : XD) : SD := fun e => match e[i]? with
  | some (.dat d) => (f e).bind fun p => (p.1.get p.2).bind fun y => (g d y).bind fun z => (setC p.2 i (.dat z)).map .nx
  | _ => none
theorem psd_aug {i : Nat} {x : Str} {op : Operator} {r : R2} {g : D → D → Option D} (ho : OpR X (inplaceOp op) r) (h2 : Op2 K r g) (h : PEd X K ex f) (hN : X.N.Nodup) (hi : X.N[i]? = some x := by rfl) (hx : Loc X.env.scope x := by first | exact .inl rfl | exact .inr rfl)
    (hf : X.fn x = true ∨ X.env.scope.names.lookup x = some .local := by first | exact .inl rfl | exact .inr rfl | assumption) : PSd X K (.AugAssign (.Name x pos') op ex pos) (dAug i g f) := by
  obtain ⟨t1, h, s⟩ := h
  refine ⟨_, ps_aug hN hi hx h (ti := r) (fun pins s σ H x y v u Q I rx ry q => ho pins s σ H x y v u Q I rx ry q) hf, fun G F e σ H o Dn rep hf q => ?_⟩
  unfold dAug at hf
  split at hf
  · rename_i d hd
    simp only [Option.bind_eq_some_iff, Option.map_eq_some_iff] at hf
    obtain ⟨⟨rr, e1⟩, hf1, y, hy, z, hz, e2, hf2, rfl⟩ := hf
    obtain ⟨v, h1, h3⟩ := rep.dat i d hd
    refine ⟨v, h1, s G F e σ H rr e1 _ rep hf1 fun u F1 H1 rep1 ss a1 => ?_⟩
    refine h2 F1 H1 v u d y z _ rep1.sub (.at (h3.mono ss)) (a1.top rep1 hy) hz fun w F2 H2 ad aw => ?_
    exact q _ F2 H2 ((rep1.adds ad).setDat aw hf2) (ss.trans ad.ff)
  · cases hf
/-! ### x[i] = e on an object of one's own -/
def OpSet (K : PySem.W.Frag) (t : TSet) (g : D → D → D → Option D) : Prop := ∀ (F H : Hp) (p : Addr) (o : HO) (i v : V) (d di dv z : D) (Q : Hp → Prop), Same F H → H p = some o → Own K F o d → Top K F H i di → At K F v dv → g d di dv = some z →
  (∀ o', Own K F o' z → Q (upd H p o')) → t (.ref p) i v H Q
/-- the value, the object's slot, the index -/
def dStore (g : D → D → D → Option D) (f fo fi : XD) : SD := fun e => (f e).bind fun p => (p.1.take p.2).bind fun q => (fo q.2).bind fun r => match r.1 with
  | .slot j => (fi r.2).bind fun s => (s.1.get s.2).bind fun di => (cellAt s.2 j).bind fun d => (g d di q.1).bind fun z => (setH s.2 j z).map .nx
  | .dat _ => none
theorem psd_store {o i : Expr} {tpos : Pos} {fo fi : XD} {t : TSet} {g : D → D → D → Option D} (hp : PSet X t) (h2 : OpSet K t g) (h : PEd X K ex f) (ho : PEd X K o fo) (hi : PEd X K i fi)
    (ha : ∀ v, assign (.Subscript o i tpos) X.env v = (do
      let ov ← holding [v] (eval o X.env)
      let iv ← holding [v, ov] (eval i X.env)
      standAt tpos
      holding [v, ov, iv] (setItem ov iv v)
      release [v, ov, iv] []) := by intro _; rfl)
    (hs : swapsWithSole [.Subscript o i tpos] ex pos.line X.env = pure false := by rfl) (hw : swappedStores [.Subscript o i tpos] ex X.env = pure none := by rfl)
    (h1 : (assignEach [.Subscript o i tpos] X.env).map (·.2) = [assign (.Subscript o i tpos) X.env] := by rfl) : PSd X K (.Assign [.Subscript o i tpos] ex pos) (dStore g f fo fi) := by
  obtain ⟨t1, h, s⟩ := h
  obtain ⟨t2, ho, so⟩ := ho
  obtain ⟨t3, hi, si⟩ := hi
  refine ⟨_, ps_asg h (pg_sub ho hi hp ha) hs hw h1, fun G F e σ H out Dn rep hf q => ?_⟩
  unfold dStore at hf
  simp only [Option.bind_eq_some_iff] at hf
  obtain ⟨⟨r, e1⟩, hf1, ⟨dv, e2⟩, hf2, ⟨ro, e3⟩, hf3, hf4⟩ := hf
  cases ro with
  | dat _ => cases hf4
  | slot j =>
    replace hf4 : ((fi e3).bind fun s => (s.1.get s.2).bind fun di => (cellAt s.2 j).bind fun d => (g d di dv).bind fun z => (setH s.2 j z).map Out.nx) = some out := hf4
    simp only [Option.bind_eq_some_iff, Option.map_eq_some_iff] at hf4
    obtain ⟨⟨ri, e4⟩, hf4, di, hdi, d, hd, z, hz, e5, hf5, rfl⟩ := hf4
    refine s G F e σ H r e1 _ rep hf1 fun v F1 H1 rep1 ss a1 => ?_
    obtain ⟨F2, rep2, ss2, a2⟩ := rep1.take a1 hf2
    refine so G F2 e2 σ H1 _ e3 _ rep2 hf3 fun x F3 H3 rep3 ss3 a3 => ?_
    refine si G F3 e3 σ H3 ri e4 _ rep3 hf4 fun y F4 H4 rep4 ss4 a4 => ?_
    obtain ⟨c, hc, hcd⟩ := cellAt_some hd
    obtain ⟨p, ob, q1, q2, q3, q4, _⟩ := rep4.own j c d hc hcd
    have hx : x = .ref p := by have := a3.1; rw [q1] at this; cases this; rfl
    subst hx
    refine h2 F4 H4 p ob y v d di dv z _ rep4.sub q2 q3 (a4.top rep4 hdi) (a2.mono (ss3.trans ss4)) hz fun o' ho' => ?_
    exact q σ F4 _ (rep4.write q1 (o := ob) ho' hf5) (ss.trans (ss2.trans (ss3.trans ss4)))
/-! ### while, for -/
def dWhile (c : TD) (t : SD) : Nat → SD
  | 0, _ => none
  | n + 1, e => (c e).bind fun p => if p.1 = true then (t p.2).bind fun o => match o with
      | .nx e' => dWhile c t n e'
      | .ct e' => dWhile c t n e'
      | .bk e' => some (.nx e')
      | .rt d e' => some (.rt d e')
      | .ro d e' => some (.ro d e')
    else some (.nx p.2)
theorem psd_while {fc : TD} {body : List Stmt} (n : Nat) (hp : PassesOwn (model X.prog X.w) X.A X.env X.xe) (hc : PTd X K c fc) (hb : PSsd X K body t) : PSd X K (.While c body [] pos) (dWhile fc t n) := by
  obtain ⟨tc, hc, sc⟩ := hc
  obtain ⟨tb, hb, sb⟩ := hb
  refine ⟨_, ps_while hp hc hb, fun G F e σ H o Dn rep hf q => ?_⟩
  refine ⟨fun m σ H => ∃ F1 e1, Rep K G F1 e1 σ H ∧ Same F F1 ∧ dWhile fc t m e1 = some o, ⟨n, F, e, rep, .refl _, hf⟩, ?_⟩
  rintro m σ1 H1 ⟨F1, e1, rep1, ss1, hf1⟩
  cases m with
  | zero => cases hf1
  | succ m =>
    simp only [dWhile, Option.bind_eq_some_iff] at hf1
    obtain ⟨⟨b, e2⟩, hf2, hf3⟩ := hf1
    refine sc G F1 e1 σ1 H1 b e2 _ rep1 hf2 fun F2 H2 rep2 ss2 => ?_
    cases b with
    | false =>
      simp at hf3
      subst hf3
      exact iteF (q σ1 F2 H2 rep2 (ss1.trans ss2))
    | true =>
      simp only [if_true, Option.bind_eq_some_iff] at hf3
      obtain ⟨o2, hf3, hf4⟩ := hf3
      refine iteT ⟨fun σ' H' => ∃ F1 e1, Rep K G F1 e1 σ' H' ∧ Same F F1 ∧ dWhile fc t m e1 = some o, fun σ' H' w => ⟨m, Nat.lt_succ_self m, w⟩, ?_⟩
      refine sb G F2 e2 σ1 H2 o2 _ rep2 hf3 ?_
      cases o2 with
      | nx e3 => exact fun σ3 F3 H3 rep3 ss3 => ⟨F3, e3, rep3, ss1.trans (ss2.trans ss3), hf4⟩
      | ct e3 => exact fun σ3 F3 H3 rep3 ss3 => ⟨F3, e3, rep3, ss1.trans (ss2.trans ss3), hf4⟩
      | bk e3 => cases hf4; exact fun σ3 F3 H3 rep3 ss3 => q σ3 F3 H3 rep3 (ss1.trans (ss2.trans ss3))
      | rt d e3 => cases hf4; exact fun v σ3 F3 H3 rep3 ss3 => q v σ3 F3 H3 rep3 (ss1.trans (ss2.trans ss3))
      | ro d e3 => cases hf4; exact fun v σ3 F3 H3 rep3 ss3 => q v σ3 F3 H3 rep3 (ss1.trans (ss2.trans ss3))
/-- what is walked: the data one by one -/
structure ItD (K : PySem.W.Frag) (J : It) (F0 : Hp) (ds : List D) : Prop where
  go : ∀ (i : Nat) (d : D) (F H : Hp), Same F0 F → Same F H → ds[i]? = some d → J.go i H
  yld : ∀ (i : Nat) (d : D) (F H : Hp) (x : V) (H' : Hp), Same F0 F → Same F H → ds[i]? = some d → J.yld i H x H' → ∃ F', Adds F H F' H' ∧ At K F' x d
  stop : ∀ (i : Nat) (F H : Hp), Same F0 F → Same F H → ds.length ≤ i → J.stop i H
abbrev ID := Env → Option (List D × Env)
def SemI (K : PySem.W.Frag) (w : TI) (f : ID) : Prop := ∀ (G : Gd) (F : Hp) (e : Env) (σ : St) (H : Hp) (ds : List D) (e' : Env) (R : It → Hp → Prop), Rep K G F e σ H → f e = some (ds, e') →
  (∀ J F' H', Rep K G F' e' σ H' → Same F F' → ItD K J F' ds → R J H') → w σ H R
def PId (X : Cx) (K : PySem.W.Frag) (tg it : Expr) (f : ID) : Prop := ∃ w, PI X tg it w ∧ SemI K w f
def dForGo (g : GD) (t : SD) : List D → SD
  | [], e => some (.nx e)
  | d :: ds, e => (g d e).bind fun e1 => (t e1).bind fun o => match o with
      | .nx e' => dForGo g t ds e'
      | .ct e' => dForGo g t ds e'
      | .bk e' => some (.nx e')
      | .rt d e' => some (.rt d e')
      | .ro d e' => some (.ro d e')
def dFor (f : ID) (g : GD) (t : SD) : SD := fun e => (f e).bind fun p => dForGo g t p.1 p.2
theorem drop_cons {α : Type} {l : List α} {i : Nat} {x : α} {r : List α} (h : l.drop i = x :: r) : l[i]? = some x ∧ l.drop (i + 1) = r := by
  have h1 : (l.drop i)[0]? = some x := by rw [h]; rfl
  rw [List.getElem?_drop] at h1
  refine ⟨h1, ?_⟩
  have : (l.drop i).drop 1 = r := by rw [h]; rfl
  rwa [List.drop_drop] at this
theorem psd_for {it tg : Expr} {fi : ID} {g : GD} {ws : List Nat} {body : List Stmt} (gd : Good X K k) (hp : PassesOwn (model X.prog X.w) X.A X.env X.xe) (hi : PId X K tg it fi) (hg : PGd X K ws tg g) (hb : PSsd X K body t)
    (hs : ∀ x, foldedSetIterable it X.env x = pure x := by intro _; rfl) : PSd X K (.For tg it body [] pos) (dFor fi g t) := by
  obtain ⟨wi, hi, si⟩ := hi
  obtain ⟨tg', hg, sg⟩ := hg
  obtain ⟨tb, hb, sb⟩ := hb
  refine ⟨_, ps_for hp gd.calm hi hg hb hs, fun G F e σ H o Dn rep hf q => ?_⟩
  unfold dFor at hf
  simp only [Option.bind_eq_some_iff] at hf
  obtain ⟨⟨ds, e1⟩, hf1, hf2⟩ := hf
  refine si G F e σ H ds e1 _ rep hf1 fun J F1 H1 rep1 ss1 itd => ?_
  refine ⟨fun i m σ H => ∃ F2 e2, Rep K G F2 e2 σ H ∧ Same F1 F2 ∧ m = ds.length - i ∧ dForGo g t (ds.drop i) e2 = some o, ⟨_, F1, e1, rep1, .refl _, rfl, hf2⟩, ?_⟩
  rintro i m σ2 H2 ⟨F2, e2, rep2, ss2, rfl, hgo⟩
  cases hd : ds.drop i with
  | nil =>
    rw [hd] at hgo
    cases hgo
    have : ds.length ≤ i := by simpa using hd
    exact .inl ⟨itd.stop i F2 H2 ss2 rep2.sub this, q σ2 F2 H2 rep2 (ss1.trans ss2)⟩
  | cons d r =>
    obtain ⟨hdi, hdr⟩ := drop_cons hd
    have hlt : i < ds.length := (List.getElem?_eq_some_iff.mp hdi).1
    rw [hd] at hgo
    simp only [dForGo, Option.bind_eq_some_iff] at hgo
    obtain ⟨e3, hf3, o2, hf4, hf5⟩ := hgo
    refine .inr ⟨itd.go i d F2 H2 ss2 rep2.sub hdi, fun σ H => ∃ F2 e2, Rep K G F2 e2 σ H ∧ Same F1 F2 ∧ dForGo g t (ds.drop (i + 1)) e2 = some o, ?_, fun x H' hy => ?_⟩
    · rintro σ' H' ⟨F', e', r1, r2, r3⟩
      exact ⟨ds.length - (i + 1), by omega, F', e', r1, r2, rfl, r3⟩
    · obtain ⟨F3, ad, ax⟩ := itd.yld i d F2 H2 x H' ss2 rep2.sub hdi hy
      refine sg G F3 e2 σ2 H' x d e3 _ (rep2.adds ad) ax hf3 fun σ4 F4 H4 rep4 ss4 _ => ?_
      refine sb G F4 e3 σ4 H4 o2 _ rep4 hf4 ?_
      have sall : Same F1 F4 := ss2.trans (ad.ff.trans ss4)
      cases o2 with
      | nx e5 => exact fun σ5 F5 H5 rep5 ss5 => ⟨F5, e5, rep5, sall.trans ss5, by rw [hdr]; exact hf5⟩
      | ct e5 => exact fun σ5 F5 H5 rep5 ss5 => ⟨F5, e5, rep5, sall.trans ss5, by rw [hdr]; exact hf5⟩
      | bk e5 => cases hf5; exact fun σ5 F5 H5 rep5 ss5 => q σ5 F5 H5 rep5 (ss1.trans (sall.trans ss5))
      | rt d5 e5 => cases hf5; exact fun v σ5 F5 H5 rep5 ss5 => q v σ5 F5 H5 rep5 (ss1.trans (sall.trans ss5))
      | ro d5 e5 => cases hf5; exact fun v σ5 F5 H5 rep5 ss5 => q v σ5 F5 H5 rep5 (ss1.trans (sall.trans ss5))
end
end HD

namespace HD
open PySem PySem.Spec PyProof.Rows L2 RT

theorem lim_le {n : Nat} (h : n ≤ 16777216) : n ≤ sizeLine := by rw [sizeLine_eq]; exact h
theorem lim_lt {n : Nat} (h : n < 16777216) : n < sizeLine := by rw [sizeLine_eq]; exact h

/-! ### new objects -/
section
variable {K : PySem.W.Frag} {G : Gd} {F H : Hp} {e : Env} {σ : St} {p : Addr} {o : HO} {d : D}
theorem Rep.free_ads (rep : Rep K G F e σ H) (hp : H p = none) : p ∉ G.ads := by
  intro h
  obtain ⟨q, hq, rfl⟩ := List.mem_map.mp h
  obtain ⟨h1, d, h2⟩ := rep.io q hq
  obtain ⟨p, o, e1, e2, _⟩ := rep.own q.1 _ d h2 rfl
  rw [h1] at e1; cases e1
  rw [hp] at e2; cases e2
theorem Rep.free_H0 (rep : Rep K G F e σ H) (hp : H p = none) : G.H0 p = none := by
  cases h0 : G.H0 p with
  | none => rfl
  | some x => rw [rep.frame p x h0 (rep.free_ads hp)] at hp; cases hp
theorem Rep.new (rep : Rep K G F e σ H) (hp : H p = none) (ho : Own K F o d) : Rep K G F e σ (upd H p o) ∧ Fresh K G F e σ (upd H p o) p d := by
  refine ⟨rep.adds (.new0 rep.sub hp), ⟨o, upd_same, ho⟩, rep.sub.free hp, rep.free_H0 hp, fun i c d' hc hd hs => ?_⟩
  obtain ⟨p', o', q1, q2, _⟩ := rep.own i c d' hc hd
  rw [hs] at q1
  cases q1
  rw [hp] at q2
  cases q2
end
/-- an operator that makes a new object -/
def Op2N (K : PySem.W.Frag) (r : R2) (g : D → D → Option D) : Prop := ∀ (F H : Hp) (v u : V) (x y z : D) (Q : VK), Same F H → Top K F H v x → Top K F H u y → g x y = some z →
  (∀ p o, H p = none → Own K F o z → Q (.ref p) (upd H p o)) → r v u H Q
def OpAN (K : PySem.W.Frag) (r : List V → Hp → VK → Prop) (g : List D → Option D) : Prop := ∀ (F H : Hp) (vs : List V) (xs : List D) (z : D) (Q : VK), Same F H → TopL K F H vs xs → g xs = some z →
  (∀ p o, H p = none → Own K F o z → Q (.ref p) (upd H p o)) → r vs H Q
theorem Op2N.op {K : PySem.W.Frag} {r : R2} {g : D → D → Option D} (h : Op2N K r g) : Op2 K r g := fun F H v u x y z Q s a b hz q => h F H v u x y z Q s a b hz fun p o hp ho =>
  q _ _ _ (.new s hp) ((ho.mono (same_upd (s.free hp))).at upd_same)
theorem OpAN.op {K : PySem.W.Frag} {r : List V → Hp → VK → Prop} {g : List D → Option D} (h : OpAN K r g) : OpA K r g := fun F H vs xs z Q s a hz q => h F H vs xs z Q s a hz fun p o hp ho =>
  q _ _ _ (.new s hp) ((ho.mono (same_upd (s.free hp))).at upd_same)
def dBinN (g : D → D → Option D) (a b : XD) : ND := fun e =>
  (a e).bind fun p => (b p.2).bind fun q => (p.1.get q.2).bind fun x => (q.1.get q.2).bind fun y => (g x y).map fun z => (z, q.2)
def dCBN (g : List D → Option D) (fa : AD) : ND := fun e => (fa e).bind fun p => (gets p.2 p.1).bind fun xs => (g xs).map fun z => (z, p.2)
section
variable {X : Cx} {K : PySem.W.Frag} {k : Nat} {ex a b c : Expr} {es : List Expr} {pos p : Pos} {f fa fb : XD} {fr : AD} {x : Str}
theorem pnd_bin {op : Operator} {r : R2} {g : D → D → Option D} (ho : OpR X (binaryOp op) r) (h2 : Op2N K r g) (ha : PEd X K a fa) (hb : PEd X K b fb) : PNd X K (.BinOp a op b pos) (dBinN g fa fb) := by
  obtain ⟨ta, ha, sa⟩ := ha
  obtain ⟨tb, hb, sb⟩ := hb
  refine ⟨_, pe_op ho ha hb, fun G F e σ H d e' Q rep hf q => ?_⟩
  unfold dBinN at hf
  simp only [Option.bind_eq_some_iff, Option.map_eq_some_iff] at hf
  obtain ⟨⟨ra, e1⟩, ha, ⟨rb, e2'⟩, hb, x, hx, y, hy, z, hz, he⟩ := hf
  cases he
  refine sem2 sa sb rep ha hb hx hy fun v u F' H' rep' s a1 a2 => ?_
  refine h2 F' H' v u x y _ Q rep'.sub a1 a2 hz fun p o hp ho => ?_
  obtain ⟨r1, f1⟩ := rep'.new hp ho
  exact q p F' _ r1 s f1
theorem sem_cbN {r : List V → Hp → VK → Prop} {g : List D → Option D} {t : TA} {fa : AD} (h : OpAN K r g) (sa : SemA K t fa) : SemN K (tCB r t) (dCBN g fa) := by
  intro G F e σ H d e' Q rep hf q
  unfold dCBN at hf
  simp only [Option.bind_eq_some_iff, Option.map_eq_some_iff] at hf
  obtain ⟨⟨rs, e1⟩, h1, xs, hx, z, hz, hf⟩ := hf
  cases hf
  refine sa G F e σ H rs e1 _ rep h1 fun vs F1 H1 rep1 s1 hl a1 => ?_
  refine h F1 H1 vs xs _ Q rep1.sub (tops rep1 hl a1 hx) hz fun p o hp ho => ?_
  obtain ⟨r1, f1⟩ := rep1.new hp ho
  exact q p F1 _ r1 s1 f1
theorem pnd_callB {id : String} {r : List V → Hp → VK → Prop} {g : List D → Option D} (hc : CallR X (.builtin id) r) (h : OpAN K r g) (hg : Gl X x) (hm : X.mg x = none) (hv : bootBuiltins x = some (.builtin id)) (ha : PAd X K (a :: es) fr) (hn : x ≠ "__name__" := by decide) (hdb : (x == ("__debug__" : Str)) = false := by decide)
    (he : starEach (a :: es) X.env = (false, eval a X.env) :: starEach es X.env := by rfl) (hpl : (backTo pos (starEach es X.env)).any (·.1) = false := by rfl) : PNd X K (.Call (.Name x p) (a :: es) [] pos) (dCBN g fr) := by
  obtain ⟨t, ha, sa⟩ := ha
  exact ⟨_, pe_callB hc hg hm hv ha hn hdb he hpl, sem_cbN h sa⟩
theorem pnd_callTy {T : String} {r : List V → Hp → VK → Prop} {g : List D → Option D} (hc : CallR X (.type T) r) (h : OpAN K r g) (hg : Gl X x) (hm : X.mg x = none) (hv : bootBuiltins x = some (.type T)) (ha : PAd X K (a :: es) fr) (hn : x ≠ "__name__" := by decide) (hdb : (x == ("__debug__" : Str)) = false := by decide)
    (he : starEach (a :: es) X.env = (false, eval a X.env) :: starEach es X.env := by rfl) (hpl : (backTo pos (starEach es X.env)).any (·.1) = false := by rfl) : PNd X K (.Call (.Name x p) (a :: es) [] pos) (dCBN g fr) := by
  obtain ⟨t, ha, sa⟩ := ha
  exact ⟨_, pe_callTy hc hg hm hv ha hn hdb he hpl, sem_cbN h sa⟩
/-! ### displays -/
def dLst (fa : AD) : ND := fun e => (fa e).bind fun p => (takeAll p.2 p.1).bind fun q => if q.1.length ≤ 16777216 then some (.list q.1, q.2) else none
theorem pnd_lst (h : PAd X K es fr) : PNd X K (.List es pos) (dLst fr) := by
  obtain ⟨t, h, s⟩ := h
  refine ⟨_, pe_lst h, fun G F e σ H d e' Q rep hf q => ?_⟩
  unfold dLst at hf
  simp only [Option.bind_eq_some_iff] at hf
  obtain ⟨⟨rs, e1⟩, h1, ⟨ds, e2⟩, h2, hf⟩ := hf
  split at hf
  · rename_i hl
    cases hf
    refine s G F e σ H rs e1 _ rep h1 fun vs F1 H1 rep1 s1 hvl a1 => ?_
    obtain ⟨F2, rep2, s2, a2⟩ := rep1.takes hvl a1 h2
    refine ⟨by rw [a2.len]; exact lim_le hl, fun p hp => ?_⟩
    obtain ⟨r1, f1⟩ := rep2.new hp (Own.lst a2)
    exact q p F2 _ r1 (s1.trans s2) f1
  · cases hf
def dTup (fa : AD) : XD := fun e => (fa e).bind fun p => (takeAll p.2 p.1).bind fun q => if q.1.length ≤ 16777216 then some (.dat (.tuple q.1), q.2) else none
theorem ped_tup {x1} (h : PAd X K es fr) : PEd X K (.Tuple es x1 pos) (dTup fr) := by
  obtain ⟨t, h, s⟩ := h
  refine ⟨_, pe_tup h, fun G F e σ H d e' Q rep hf q => ?_⟩
  unfold dTup at hf
  simp only [Option.bind_eq_some_iff] at hf
  obtain ⟨⟨rs, e1⟩, h1, ⟨ds, e2⟩, h2, hf⟩ := hf
  split at hf
  · rename_i hl
    cases hf
    refine s G F e σ H rs e1 _ rep h1 fun vs F1 H1 rep1 s1 hvl a1 => ?_
    obtain ⟨F2, rep2, s2, a2⟩ := rep1.takes hvl a1 h2
    refine ⟨by rw [a2.len]; exact lim_le hl, fun p hp => ?_⟩
    have ad : Adds F2 H1 (upd F2 p (.tup vs)) (upd H1 p (.tup vs)) := .new rep2.sub hp
    exact q _ _ _ (rep2.adds ad) (s1.trans (s2.trans ad.ff)) (.tup upd_same (a2.mono ad.ff))
  · cases hf

/-! ### what is walked -/
def iterD : D → Option (List D)
  | .list ds => some ds
  | .tuple ds => some ds
  | .str x => some (x.cps.toList.map fun c => .str ⟨#[c]⟩)
  | _ => none
def dI (g : D → Option (List D)) (f : XD) : ID := fun e => (f e).bind fun p => (p.1.take p.2).bind fun q => (g q.1).map fun ds => (ds, q.2)
def D.lst? : D → Option (List D)
  | .list ds => some ds
  | _ => none
def D.tup? : D → Option (List D)
  | .tuple ds => some ds
  | _ => none
def D.str? : D → Option Str
  | .str x => some x
  | _ => none
theorem itd_list {F0 : Hp} {a : Addr} {xs : List V} {ds : List D} (h1 : F0 a = some (.lst xs)) (h2 : AtL K F0 xs ds) : ItD K (Itl K a) F0 ds where
  go := fun i d F H s s2 hd => by
    obtain ⟨x, hx, _⟩ := h2.get hd
    exact ⟨xs, x, .of (s2 _ _ (s _ _ h1)), hx⟩
  yld := fun i d F H x H' s s2 hd hy => by
    obtain ⟨rfl, hy⟩ := hy
    obtain ⟨x', hx, hxa⟩ := h2.get hd
    have := hy xs (.of (s2 _ _ (s _ _ h1)))
    rw [hx] at this
    cases this
    exact ⟨F, .refl s2, hxa.mono s⟩
  stop := fun i F H s s2 hl => ⟨xs, .of (s2 _ _ (s _ _ h1)), by rw [h2.len]; exact hl⟩
theorem itd_tup {F0 : Hp} {a : Addr} {xs : List V} {ds : List D} (h1 : SqT K F0 a xs) (h2 : AtL K F0 xs ds) : ItD K (Itt K a) F0 ds where
  go := fun i d F H s s2 hd => by
    obtain ⟨x, hx, _⟩ := h2.get hd
    exact ⟨xs, x, SqT.mono (s.trans s2) h1, hx⟩
  yld := fun i d F H x H' s s2 hd hy => by
    obtain ⟨rfl, hy⟩ := hy
    obtain ⟨x', hx, hxa⟩ := h2.get hd
    have := hy xs (SqT.mono (s.trans s2) h1)
    rw [hx] at this
    cases this
    exact ⟨F, .refl s2, hxa.mono s⟩
  stop := fun i F H s s2 hl => ⟨xs, SqT.mono (s.trans s2) h1, by rw [h2.len]; exact hl⟩
variable {tg : Expr}
theorem pid_list (gd : Good X K k) (h : PEd X K ex f) : PId X K tg ex (dI D.lst? f) := by
  obtain ⟨t, h, s⟩ := h
  refine ⟨_, pi_list h, fun G F e σ H ds e' R rep hf q => ?_⟩
  unfold dI at hf
  simp only [Option.bind_eq_some_iff, Option.map_eq_some_iff] at hf
  obtain ⟨⟨r, e1⟩, h1, ⟨d, e2⟩, h2, ds', h3, hf⟩ := hf
  cases hf
  refine s G F e σ H r e1 _ rep h1 fun v F1 H1 rep1 s1 a1 => ?_
  obtain ⟨F2, rep2, s2, a2⟩ := rep1.take a1 h2
  rw [gd.K]
  cases a2 with
  | lst b1 b2 => cases h3; exact ⟨_, rfl, ⟨_, .of (rep2.sub _ _ b1)⟩, q _ F2 H1 rep2 (s1.trans s2) (itd_list b1 b2)⟩
  | _ => cases h3
theorem pid_tup (gd : Good X K k) (h : PEd X K ex f) : PId X K tg ex (dI D.tup? f) := by
  obtain ⟨t, h, s⟩ := h
  refine ⟨_, pi_tup h, fun G F e σ H ds e' R rep hf q => ?_⟩
  unfold dI at hf
  simp only [Option.bind_eq_some_iff, Option.map_eq_some_iff] at hf
  obtain ⟨⟨r, e1⟩, h1, ⟨d, e2⟩, h2, ds', h3, hf⟩ := hf
  cases hf
  refine s G F e σ H r e1 _ rep h1 fun v F1 H1 rep1 s1 a1 => ?_
  obtain ⟨F2, rep2, s2, a2⟩ := rep1.take a1 h2
  rw [gd.K]
  cases a2 with
  | tup b1 b2 => cases h3; exact ⟨_, rfl, ⟨_, .of (rep2.sub _ _ b1)⟩, q _ F2 H1 rep2 (s1.trans s2) (itd_tup (.of b1) b2)⟩
  | _ => cases h3
def chars (x : Str) : List D := x.cps.toList.map fun c => .str ⟨#[c]⟩
theorem itd_str {F0 : Hp} {x : Str} : ItD K (Its x) F0 (chars x) where
  go := fun i d F H s s2 hd => by
    have := (List.getElem?_eq_some_iff.mp hd).1
    show i < x.cps.size
    simpa [chars] using this
  yld := fun i d F H v H' s s2 hd hy => by
    obtain ⟨rfl, c, hc, rfl⟩ := hy
    refine ⟨F, .refl s2, ?_⟩
    have : d = .str ⟨#[c]⟩ := by
      simp only [chars, List.getElem?_map, Array.getElem?_toList] at hd
      rw [hc] at hd
      simpa using hd.symm
    subst this
    exact .str _
  stop := fun i F H s s2 hl => by
    show x.cps.size ≤ i
    simpa [chars] using hl
theorem pid_str (h : PEd X K ex f) : PId X K tg ex (dI (fun d => d.str?.map chars) f) := by
  obtain ⟨t, h, s⟩ := h
  refine ⟨_, pi_str h, fun G F e σ H ds e' R rep hf q => ?_⟩
  unfold dI at hf
  simp only [Option.bind_eq_some_iff, Option.map_eq_some_iff] at hf
  obtain ⟨⟨r, e1⟩, h1, ⟨d, e2⟩, h2, ds', ⟨x, h3, h4⟩, hf⟩ := hf
  cases hf
  refine s G F e σ H r e1 _ rep h1 fun v F1 H1 rep1 s1 a1 => ?_
  obtain ⟨F2, rep2, s2, a2⟩ := rep1.take a1 h2
  cases a2 with
  | str z => cases h3; cases h4; exact ⟨_, rfl, q _ F2 H1 rep2 (s1.trans s2) itd_str⟩
  | _ => cases h3
/-! ranges -/
def rangeD (lo : Int) (n : Nat) : List D := (List.range n).map fun i => .int (lo + (i : Nat))
theorem itd_range {F0 : Hp} {lo : Int} {n : Nat} : ItD K (Itr lo n) F0 (rangeD lo n) where
  go := fun i d F H s s2 hd => by
    have := (List.getElem?_eq_some_iff.mp hd).1
    show i < n
    simpa [rangeD] using this
  yld := fun i d F H v H' s s2 hd hy => by
    obtain ⟨rfl, rfl⟩ := hy
    refine ⟨F, .refl s2, ?_⟩
    have hlt := (List.getElem?_eq_some_iff.mp hd).1
    simp only [rangeD, List.length_map, List.length_range] at hlt
    simp only [rangeD, List.getElem?_map, List.getElem?_range hlt, Option.map_some, Option.some.injEq] at hd
    subst hd
    exact .int _
  stop := fun i F H s s2 hl => by
    show n ≤ i
    simpa [rangeD] using hl
/-- a list of operands as data -/
def dIA (g : List D → Option (List D)) (f : AD) : ID := fun e => (f e).bind fun p => (gets p.2 p.1).bind fun xs => (g xs).map fun ds => (ds, p.2)
def range1 : List D → Option (List D)
  | [.int j] => if j.natAbs < 2 ^ 62 then some (rangeD 0 j.toNat) else none
  | _ => none
def range2 : List D → Option (List D)
  | [.int i, .int j] => if i.natAbs < 2 ^ 62 ∧ j.natAbs < 2 ^ 62 then some (rangeD i (j - i).toNat) else none
  | _ => none
theorem pid_range1 {fr : AD} (hg : Gl X "range") (hm : X.mg "range" = none) (ha : PAd X K [a] fr) (hs : starEach [a] X.env = [(false, eval a X.env)] := by rfl) : PId X K tg (.Call (.Name "range" p) [a] [] pos) (dIA range1 fr) := by
  obtain ⟨t, ha, sa⟩ := ha
  refine ⟨_, pi_range1 hg hm ha hs, fun G F e σ H ds e' R rep hf q => ?_⟩
  unfold dIA at hf
  simp only [Option.bind_eq_some_iff, Option.map_eq_some_iff] at hf
  obtain ⟨⟨rs, e1⟩, h1, xs, hx, ds', h3, hf⟩ := hf
  cases hf
  refine sa G F e σ H rs e1 _ rep h1 fun vs F1 H1 rep1 s1 hl a1 => ?_
  have tp := tops rep1 hl a1 hx
  unfold range1 at h3
  split at h3
  · rename_i j
    split at h3
    · rename_i hb
      cases h3
      cases tp with
      | cons t1 t2 => cases t2; exact ⟨j, by rw [t1.int], by omega, by omega, q _ F1 H1 rep1 s1 itd_range⟩
    · cases h3
  · cases h3
theorem pid_range2 {fr : AD} (hg : Gl X "range") (hm : X.mg "range" = none) (ha : PAd X K [a, b] fr) (hs : starEach [a, b] X.env = [(false, eval a X.env), (false, eval b X.env)] := by rfl) (hs2 : starEach [b] X.env = [(false, eval b X.env)] := by rfl) :
    PId X K tg (.Call (.Name "range" p) [a, b] [] pos) (dIA range2 fr) := by
  obtain ⟨t, ha, sa⟩ := ha
  refine ⟨_, pi_range2 hg hm ha hs hs2, fun G F e σ H ds e' R rep hf q => ?_⟩
  unfold dIA at hf
  simp only [Option.bind_eq_some_iff, Option.map_eq_some_iff] at hf
  obtain ⟨⟨rs, e1⟩, h1, xs, hx, ds', h3, hf⟩ := hf
  cases hf
  refine sa G F e σ H rs e1 _ rep h1 fun vs F1 H1 rep1 s1 hl a1 => ?_
  have tp := tops rep1 hl a1 hx
  unfold range2 at h3
  split at h3
  · rename_i i j
    split at h3
    · rename_i hb
      cases h3
      cases tp with
      | cons t1 t2 => cases t2 with
        | cons t2 t3 => cases t3; exact ⟨i, j, by rw [t1.int, t2.int], ⟨by omega, by omega, by omega, by omega⟩, q _ F1 H1 rep1 s1 itd_range⟩
    · cases h3
  · cases h3
/-! range with a step -/
def rangeC (lo c : Int) (n : Nat) : List D := (List.range n).map fun i => .int (lo + (i : Nat) * c)
theorem itd_rangeC {F0 : Hp} {lo c : Int} {n : Nat} : ItD K (Itc lo c n) F0 (rangeC lo c n) where
  go := fun i d F H s s2 hd => by
    have := (List.getElem?_eq_some_iff.mp hd).1
    show i < n
    simpa [rangeC] using this
  yld := fun i d F H v H' s s2 hd hy => by
    obtain ⟨rfl, rfl⟩ := hy
    refine ⟨F, .refl s2, ?_⟩
    have hlt := (List.getElem?_eq_some_iff.mp hd).1
    simp only [rangeC, List.length_map, List.length_range] at hlt
    simp only [rangeC, List.getElem?_map, List.getElem?_range hlt, Option.map_some, Option.some.injEq] at hd
    subst hd
    exact .int _
  stop := fun i F H s s2 hl => by
    show n ≤ i
    simpa [rangeC] using hl
def range3 : List D → Option (List D)
  | [.int i, .int j, .int c] => if c ≠ 0 ∧ c.natAbs < 1073741824 ∧ Builtin.Range.small i j c = true ∧ 0 ≤ Builtin.Range.rangeSize i j c then some (rangeC i c (Builtin.Range.rangeSize i j c).toNat) else none
  | _ => none
theorem pid_range3 {fr : AD} (hg : Gl X "range") (hm : X.mg "range" = none) (ha : PAd X K [a, b, c] fr) (hs : starEach [a, b, c] X.env = (false, eval a X.env) :: starEach [b, c] X.env := by rfl) (hpl : (backTo pos (starEach [b, c] X.env)).any (·.1) = false := by rfl) :
    PId X K tg (.Call (.Name "range" p) [a, b, c] [] pos) (dIA range3 fr) := by
  obtain ⟨t, ha, sa⟩ := ha
  refine ⟨_, pi_range3 hg hm ha hs hpl, fun G F e σ H ds e' R rep hf q => ?_⟩
  unfold dIA at hf
  simp only [Option.bind_eq_some_iff, Option.map_eq_some_iff] at hf
  obtain ⟨⟨rs, e1⟩, h1, xs, hx, ds', h3, hf⟩ := hf
  cases hf
  refine sa G F e σ H rs e1 _ rep h1 fun vs F1 H1 rep1 s1 hl a1 => ?_
  have tp := tops rep1 hl a1 hx
  unfold range3 at h3
  split at h3
  · rename_i i j c
    split at h3
    · rename_i hb
      cases h3
      cases tp with
      | cons t1 t2 => cases t2 with
        | cons t2 t3 => cases t3 with
          | cons t3 t4 => cases t4; exact ⟨i, j, c, _, by rw [t1.int, t2.int, t3.int], ⟨hb.1, hb.2.1, hb.2.2.1, (Int.toNat_of_nonneg hb.2.2.2).symm⟩, q _ F1 H1 rep1 s1 itd_rangeC⟩
    · cases h3
  · cases h3
/-! operands as data that stays -/
def dIT (g : List D → Option (List D)) (f : AD) : ID := fun e => (f e).bind fun p => (takeAll p.2 p.1).bind fun q => (g q.1).map fun ds => (ds, q.2)
/-! enumerate, zip: a new pair each -/
def enumD (i : Nat) : List D → List D
  | [] => []
  | d :: ds => .tuple [.int (i : Nat), d] :: enumD (i + 1) ds
theorem enumD_get : ∀ (ds : List D) (k i : Nat), (enumD k ds)[i]? = (ds[i]?).map fun d => .tuple [.int ((k + i : Nat) : Int), d]
  | [], k, i => by simp [enumD]
  | d :: ds, k, 0 => by simp [enumD]
  | d :: ds, k, i + 1 => by
    simp only [enumD, List.getElem?_cons_succ]
    rw [enumD_get ds (k + 1) i]
    have : k + 1 + i = k + (i + 1) := by omega
    rw [this]
theorem enumD_len : ∀ (ds : List D) (k : Nat), (enumD k ds).length = ds.length
  | [], _ => rfl
  | d :: ds, k => by simp [enumD, enumD_len ds]
theorem itd_enum {F0 : Hp} {a : Addr} {xs : List V} {ds : List D} (h1 : F0 a = some (.lst xs)) (h2 : AtL K F0 xs ds) : ItD K (Ite K a) F0 (enumD 0 ds) where
  go := fun i d F H s s2 hd => by
    rw [enumD_get] at hd
    cases hq : ds[i]? with
    | none => rw [hq] at hd; cases hd
    | some d' =>
      obtain ⟨x, hx, _⟩ := h2.get hq
      exact ⟨xs, x, .of (s2 _ _ (s _ _ h1)), hx⟩
  yld := fun i d F H v H' s s2 hd hy => by
    obtain ⟨T, x, rfl, hT, rfl, hy⟩ := hy
    rw [enumD_get] at hd
    cases hq : ds[i]? with
    | none => rw [hq] at hd; cases hd
    | some d' =>
      rw [hq] at hd
      simp only [Option.map_some, Option.some.injEq, Nat.zero_add] at hd
      subst hd
      obtain ⟨x', hx, hxa⟩ := h2.get hq
      have := hy xs (.of (s2 _ _ (s _ _ h1)))
      rw [hx] at this
      cases this
      have ad : Adds F H (upd F T (.tup [.int (i : Nat), x])) _ := .new s2 hT
      exact ⟨_, ad, .tup upd_same (.cons (.int _) (.cons ((hxa.mono s).mono ad.ff) .nil))⟩
  stop := fun i F H s s2 hl => ⟨xs, .of (s2 _ _ (s _ _ h1)), by rw [enumD_len] at hl; rw [h2.len]; exact hl⟩
def enum1 : List D → Option (List D)
  | [.list ds] => some (enumD 0 ds)
  | _ => none
theorem pid_enum {tpos : Pos} {elts : List Expr} {kk : Nat} (gd : Good X K k) (hg : Gl X "enumerate") (hm : X.mg "enumerate" = none) (ha : PAd X K [a] fr) (hs : starEach [a] X.env = [(false, eval a X.env)] := by rfl) :
    PId X K (.Tuple elts kk tpos) (.Call (.Name "enumerate" p) [a] [] pos) (dIT enum1 fr) := by
  obtain ⟨t, ha, sa⟩ := ha
  refine ⟨_, pi_enum hg hm ha hs, fun G F e σ H ds e' R rep hf q => ?_⟩
  unfold dIT at hf
  simp only [Option.bind_eq_some_iff, Option.map_eq_some_iff] at hf
  obtain ⟨⟨rs, e1⟩, h1, ⟨xs, e2⟩, hx, ds', h3, hf⟩ := hf
  cases hf
  refine sa G F e σ H rs e1 _ rep h1 fun vs F1 H1 rep1 s1 hl a1 => ?_
  obtain ⟨F2, rep2, s2, a2⟩ := rep1.takes hl a1 hx
  unfold enum1 at h3
  split at h3
  · cases h3
    rename_i zs hz
    dsimp only at hz
    subst hz
    cases a2 with
    | cons b1 b2 =>
      cases b2
      rw [gd.K]
      cases b1 with
      | lst c1 c2 => exact ⟨_, _, rfl, .of (rep2.sub _ _ c1), q _ F2 H1 rep2 (s1.trans s2) (itd_enum c1 c2)⟩
  · cases h3
def zipD : List D → List D → List D
  | x :: xs, y :: ys => .tuple [x, y] :: zipD xs ys
  | _, _ => []
theorem zipD_get : ∀ (xs ys : List D) (i : Nat), (zipD xs ys)[i]? = (xs[i]?).bind fun x => (ys[i]?).map fun y => .tuple [x, y]
  | [], ys, i => by simp [zipD]
  | x :: xs, [], i => by
    cases h : (x :: xs)[i]? <;> simp [zipD]
  | x :: xs, y :: ys, 0 => by simp [zipD]
  | x :: xs, y :: ys, i + 1 => by simp [zipD, zipD_get xs ys i]
theorem zipD_len : ∀ (xs ys : List D), (zipD xs ys).length = min xs.length ys.length
  | [], ys => by simp [zipD]
  | x :: xs, [] => by simp [zipD]
  | x :: xs, y :: ys => by simp [zipD, zipD_len xs ys]
theorem itd_zip {F0 : Hp} {a b : Addr} {xs ys : List V} {ds es : List D} (h1 : F0 a = some (.lst xs)) (h2 : AtL K F0 xs ds) (h3 : F0 b = some (.lst ys)) (h4 : AtL K F0 ys es) : ItD K (Itz K a b) F0 (zipD ds es) where
  go := fun i d F H s s2 hd => by
    rw [zipD_get] at hd
    simp only [Option.bind_eq_some_iff, Option.map_eq_some_iff] at hd
    obtain ⟨d1, q1, d2, q2, _⟩ := hd
    obtain ⟨x, hx, _⟩ := h2.get q1
    obtain ⟨y, hy, _⟩ := h4.get q2
    exact ⟨xs, ys, x, y, .of (s2 _ _ (s _ _ h1)), .of (s2 _ _ (s _ _ h3)), hx, hy⟩
  yld := fun i d F H v H' s s2 hd hy => by
    obtain ⟨T, x, y, rfl, hT, rfl, hy1, hy2⟩ := hy
    rw [zipD_get] at hd
    simp only [Option.bind_eq_some_iff, Option.map_eq_some_iff] at hd
    obtain ⟨d1, q1, d2, q2, rfl⟩ := hd
    obtain ⟨x', hx, hxa⟩ := h2.get q1
    obtain ⟨y', hy, hya⟩ := h4.get q2
    have e1 := hy1 xs (.of (s2 _ _ (s _ _ h1)))
    have e2 := hy2 ys (.of (s2 _ _ (s _ _ h3)))
    rw [hx] at e1
    rw [hy] at e2
    cases e1
    cases e2
    have ad : Adds F H (upd F T (.tup [x, y])) _ := .new s2 hT
    exact ⟨_, ad, .tup upd_same (.cons ((hxa.mono s).mono ad.ff) (.cons ((hya.mono s).mono ad.ff) .nil))⟩
  stop := fun i F H s s2 hl => ⟨xs, ys, .of (s2 _ _ (s _ _ h1)), .of (s2 _ _ (s _ _ h3)), by rw [zipD_len] at hl; rw [h2.len, h4.len]; omega⟩
def zip2 : List D → Option (List D)
  | [.list ds, .list es] => some (zipD ds es)
  | _ => none
theorem pid_zip {tpos : Pos} {elts : List Expr} {kk : Nat} (gd : Good X K k) (hg : Gl X "zip") (hm : X.mg "zip" = none) (ha : PAd X K [a, b] fr) (hs : starEach [a, b] X.env = (false, eval a X.env) :: starEach [b] X.env := by rfl) (hpl : (backTo pos (starEach [b] X.env)).any (·.1) = false := by rfl) :
    PId X K (.Tuple elts kk tpos) (.Call (.Name "zip" p) [a, b] [] pos) (dIT zip2 fr) := by
  obtain ⟨t, ha, sa⟩ := ha
  refine ⟨_, pi_zip hg hm ha hs hpl, fun G F e σ H ds e' R rep hf q => ?_⟩
  unfold dIT at hf
  simp only [Option.bind_eq_some_iff, Option.map_eq_some_iff] at hf
  obtain ⟨⟨rs, e1⟩, h1, ⟨xs, e2⟩, hx, ds', h3, hf⟩ := hf
  cases hf
  refine sa G F e σ H rs e1 _ rep h1 fun vs F1 H1 rep1 s1 hl a1 => ?_
  obtain ⟨F2, rep2, s2, a2⟩ := rep1.takes hl a1 hx
  unfold zip2 at h3
  split at h3
  · cases h3
    rename_i zs ws hz
    dsimp only at hz
    subst hz
    cases a2 with
    | cons b1 b2 => cases b2 with
      | cons b2 b3 =>
        cases b3
        rw [gd.K]
        cases b1 with
        | lst c1 c2 => cases b2 with
          | lst c3 c4 => exact ⟨_, _, _, _, rfl, .of (rep2.sub _ _ c1), .of (rep2.sub _ _ c3), q _ F2 H1 rep2 (s1.trans s2) (itd_zip c1 c2 c3 c4)⟩
  · cases h3
/-! reversed -/
theorem itd_rev {F0 : Hp} {a : Addr} {xs : List V} {ds : List D} (h1 : F0 a = some (.lst xs)) (h2 : AtL K F0 xs ds) : ItD K (Itv K a xs.length) F0 ds.reverse where
  go := fun i d F H s s2 hd => by
    have hlt : i < ds.length := by simpa using (List.getElem?_eq_some_iff.mp hd).1
    rw [List.getElem?_reverse hlt] at hd
    obtain ⟨x, hx, _⟩ := h2.get hd
    exact ⟨by rw [h2.len]; exact hlt, xs, x, .of (s2 _ _ (s _ _ h1)), by rw [h2.len]; exact hx⟩
  yld := fun i d F H x H' s s2 hd hy => by
    have hlt : i < ds.length := by simpa using (List.getElem?_eq_some_iff.mp hd).1
    rw [List.getElem?_reverse hlt] at hd
    obtain ⟨rfl, hy⟩ := hy
    obtain ⟨x', hx, hxa⟩ := h2.get hd
    have := hy xs (.of (s2 _ _ (s _ _ h1)))
    rw [h2.len, hx] at this
    cases this
    exact ⟨F, .refl s2, hxa.mono s⟩
  stop := fun i F H s s2 hl => by
    show xs.length ≤ i
    rw [h2.len]; simpa using hl
theorem itd_revT {F0 : Hp} {a : Addr} {xs : List V} {ds : List D} (h1 : SqT K F0 a xs) (h2 : AtL K F0 xs ds) : ItD K (ItvT K a xs.length) F0 ds.reverse where
  go := fun i d F H s s2 hd => by
    have hlt : i < ds.length := by simpa using (List.getElem?_eq_some_iff.mp hd).1
    rw [List.getElem?_reverse hlt] at hd
    obtain ⟨x, hx, _⟩ := h2.get hd
    exact ⟨by rw [h2.len]; exact hlt, xs, x, SqT.mono (s.trans s2) h1, by rw [h2.len]; exact hx⟩
  yld := fun i d F H x H' s s2 hd hy => by
    have hlt : i < ds.length := by simpa using (List.getElem?_eq_some_iff.mp hd).1
    rw [List.getElem?_reverse hlt] at hd
    obtain ⟨rfl, hy⟩ := hy
    obtain ⟨x', hx, hxa⟩ := h2.get hd
    have := hy xs (SqT.mono (s.trans s2) h1)
    rw [h2.len, hx] at this
    cases this
    exact ⟨F, .refl s2, hxa.mono s⟩
  stop := fun i F H s s2 hl => by
    show xs.length ≤ i
    rw [h2.len]; simpa using hl
def revD : D → Option (List D)
  | .list ds => some ds.reverse
  | .tuple ds => some ds.reverse
  | _ => none
theorem pid_rev (gd : Good X K k) (hg : Gl X "reversed") (hm : X.mg "reversed" = none) (h : PEd X K a f) (hs : starEach [a] X.env = (false, eval a X.env) :: starEach [] X.env := by rfl) : PId X K tg (.Call (.Name "reversed" p) [a] [] pos) (dI revD f) := by
  obtain ⟨t, h, s⟩ := h
  refine ⟨_, pi_revA hg hm h hs, fun G F e σ H ds e' R rep hf q => ?_⟩
  unfold dI at hf
  simp only [Option.bind_eq_some_iff, Option.map_eq_some_iff] at hf
  obtain ⟨⟨r, e1⟩, h1, ⟨d, e2⟩, h2, ds', h3, hf⟩ := hf
  cases hf
  refine s G F e σ H r e1 _ rep h1 fun v F1 H1 rep1 s1 a1 => ?_
  obtain ⟨F2, rep2, s2, a2⟩ := rep1.take a1 h2
  rw [gd.K]
  cases a2 with
  | lst b1 b2 => cases h3; exact ⟨_, _, rfl, .inl ⟨.of (rep2.sub _ _ b1), q _ F2 H1 rep2 (s1.trans s2) (itd_rev b1 b2)⟩⟩
  | tup b1 b2 => cases h3; exact ⟨_, _, rfl, .inr ⟨.of (rep2.sub _ _ b1), q _ F2 H1 rep2 (s1.trans s2) (itd_revT (.of b1) b2)⟩⟩
  | _ => cases h3
end
end HD

namespace HD
open PySem PySem.Spec PyProof.Rows L2

/-! ### slots forgotten and brought back -/
def wipeC : List Nat → Env → Option Env
  | [], e => some e
  | v :: vs, e => (wipeC vs e).bind fun e' => match e'[v]? with
    | some (.own _) => none
    | some (.io _) => none
    | some _ => some (e'.set v .un)
    | none => none
def unwE (e0 : Env) : List Nat → Env → Env
  | [], e => e
  | v :: vs, e => match e0[v]? with
    | some c => (unwE e0 vs e).set v c
    | none => unwE e0 vs e
section
variable {K : PySem.W.Frag} {G : Gd} {F H : Hp} {e e' : Env} {σ : St}
theorem Rep.wipe1 {v : Nat} {c : Cell} (rep : Rep K G F e σ H) (hc : e[v]? = some c) (hh : c.held = none) : Rep K G F (e.set v .un) (σ.set v none) H := by
  have hlt : v < e.length := (List.getElem?_eq_some_iff.mp hc).1
  have gs : ∀ {j : Nat} {c : Cell}, (e.set v .un)[j]? = some c → c ≠ .un → j ≠ v ∧ e[j]? = some c := by
    intro j c hj hn
    by_cases e1 : j = v
    · subst e1; rw [List.getElem?_set_self hlt] at hj; cases hj; exact (hn rfl).elim
    · exact ⟨e1, by rw [List.getElem?_set_ne (Ne.symm e1)] at hj; exact hj⟩
  have nu : ∀ {c : Cell} {d : D}, c.held = some d → c ≠ .un := fun h z => by subst z; cases h
  refine ⟨rep.sub, rep.sub0, rep.fr, rep.frame, by rw [List.length_set, List.length_set]; exact rep.len, ?_, ?_, ?_, ?_⟩
  · intro j d hj
    obtain ⟨ne, hj⟩ := gs hj (by intro z; cases z)
    rw [List.getElem?_set_ne (Ne.symm ne)]
    exact rep.dat j d hj
  · intro j c d hj hc
    obtain ⟨ne, hj⟩ := gs hj (nu hc)
    rw [List.getElem?_set_ne (Ne.symm ne)]
    exact rep.own j c d hj hc
  · intro j k c c' d1 d2 q hj hc hk hc' s1 s2
    obtain ⟨n1, hj⟩ := gs hj (nu hc)
    obtain ⟨n2, hk⟩ := gs hk (nu hc')
    rw [List.getElem?_set_ne (Ne.symm n1)] at s1
    rw [List.getElem?_set_ne (Ne.symm n2)] at s2
    exact rep.sep j k c c' d1 d2 q hj hc hk hc' s1 s2
  · intro q hq
    obtain ⟨q1, d', q2⟩ := rep.io q hq
    have : q.1 ≠ v := fun z => by rw [z, hc] at q2; cases q2; cases hh
    rw [List.getElem?_set_ne (Ne.symm this), List.getElem?_set_ne (Ne.symm this)]
    exact ⟨q1, d', q2⟩
theorem Rep.wipe : ∀ {vs : List Nat} {e' : Env}, Rep K G F e σ H → wipeC vs e = some e' → Rep K G F e' (L2.wipe σ vs) H
  | [], _, rep, h => by cases h; exact rep
  | v :: vs, e', rep, h => by
    simp only [wipeC, Option.bind_eq_some_iff] at h
    obtain ⟨e1, h1, h2⟩ := h
    have r1 := Rep.wipe rep h1
    cases q : e1[v]? with
    | none => rw [q] at h2; cases h2
    | some c =>
      rw [q] at h2
      cases c with
      | un => cases h2; exact r1.wipe1 q rfl
      | dat d => cases h2; exact r1.wipe1 q rfl
      | own d => cases h2
      | io d => cases h2
/-- what wipeC says of the cells -/
theorem wipeC_out : ∀ {vs : List Nat} {e e' : Env}, wipeC vs e = some e' → e'.length = e.length ∧ ∀ i, i ∉ vs → e'[i]? = e[i]?
  | [], e, e', h => by cases h; exact ⟨rfl, fun _ _ => rfl⟩
  | v :: vs, e, e', h => by
    simp only [wipeC, Option.bind_eq_some_iff] at h
    obtain ⟨e1, h1, h2⟩ := h
    obtain ⟨hl, ho⟩ := wipeC_out h1
    have : e' = e1.set v .un := by
      split at h2
      · cases h2
      · cases h2
      · cases h2; rfl
      · cases h2
    subst this
    refine ⟨by rw [List.length_set]; exact hl, fun i hi => ?_⟩
    rw [List.getElem?_set_ne (fun z => hi (by simp [z]))]
    exact ho i fun z => hi (List.mem_cons_of_mem _ z)
theorem wipeC_in : ∀ {vs : List Nat} {e e' : Env}, wipeC vs e = some e' → ∀ i ∈ vs, ∃ c, e[i]? = some c ∧ c.held = none
  | [], e, e', h => by intro i hi; cases hi
  | v :: vs, e, e', h => by
    simp only [wipeC, Option.bind_eq_some_iff] at h
    obtain ⟨e1, h1, h2⟩ := h
    intro i hi
    by_cases him : i ∈ vs
    · exact wipeC_in h1 i him
    · have hv : i = v := by rcases List.mem_cons.mp hi with z | z; exact z; exact (him z).elim
      subst hv
      rw [(wipeC_out h1).2 i him] at h2
      cases q : e[i]? with
      | none => rw [q] at h2; cases h2
      | some c =>
        rw [q] at h2
        cases c with
        | un => exact ⟨_, rfl, rfl⟩
        | dat d => exact ⟨_, rfl, rfl⟩
        | own d => cases h2
        | io d => cases h2
theorem unwE_len (e0 : Env) : ∀ (vs : List Nat) (e : Env), (unwE e0 vs e).length = e.length
  | [], e => rfl
  | v :: vs, e => by
    unfold unwE
    split
    · rw [List.length_set]; exact unwE_len e0 vs e
    · exact unwE_len e0 vs e
theorem unwE_get (e0 : Env) : ∀ (vs : List Nat) (e : Env), e.length = e0.length → ∀ i, (unwE e0 vs e)[i]? = if i ∈ vs then e0[i]? else e[i]?
  | [], e, _, i => by simp [unwE]
  | v :: vs, e, hl, i => by
    have ih := unwE_get e0 vs e hl i
    unfold unwE
    by_cases hv : v < e0.length
    · rw [List.getElem?_eq_getElem hv]
      by_cases e1 : i = v
      · subst e1
        rw [List.getElem?_set_self (by rw [unwE_len, hl]; exact hv)]
        simp [hv]
      · rw [List.getElem?_set_ne (Ne.symm e1), ih]
        simp [e1]
    · have hn : e0[v]? = none := List.getElem?_eq_none_iff.mpr (by omega)
      rw [hn]
      show (unwE e0 vs e)[i]? = _
      rw [ih]
      by_cases e1 : i = v
      · subst e1
        have he : e[i]? = none := List.getElem?_eq_none_iff.mpr (by omega)
        rw [hn, he]; simp
      · simp [e1]
theorem Rep.unw {F0 H0 : Hp} {e0 e1 : Env} {vs : List Nat} (rep0 : Rep K G F0 e0 σ H0) (hw : wipeC vs e0 = some e1) (rep : Rep K G F e (L2.wipe σ vs) H) (ss : Same F0 F) : Rep K G F (unwE e0 vs e) σ H := by
  have hl : e.length = e0.length := by rw [rep.len, wipe_length, rep0.len]
  have get := unwE_get e0 vs e hl
  have nh := wipeC_in hw
  have own_out : ∀ {i : Nat} {c : Cell} {d : D}, (unwE e0 vs e)[i]? = some c → c.held = some d → i ∉ vs ∧ e[i]? = some c := by
    intro i c d hi hc
    rw [get] at hi
    by_cases hm : i ∈ vs
    · rw [if_pos hm] at hi
      obtain ⟨c', h1, h2⟩ := nh i hm
      rw [hi] at h1; cases h1; rw [hc] at h2; cases h2
    · rw [if_neg hm] at hi; exact ⟨hm, hi⟩
  refine ⟨rep.sub, rep.sub0, rep.fr, rep.frame, by rw [unwE_len, hl]; exact rep0.len, ?_, ?_, ?_, ?_⟩
  · intro i d hi
    rw [get] at hi
    by_cases hm : i ∈ vs
    · rw [if_pos hm] at hi
      obtain ⟨v, h1, h2⟩ := rep0.dat i d hi
      exact ⟨v, h1, h2.mono ss⟩
    · rw [if_neg hm] at hi
      obtain ⟨v, h1, h2⟩ := rep.dat i d hi
      exact ⟨v, (wipe_some h1).1, h2⟩
  · intro i c d hi hc
    obtain ⟨hm, hi⟩ := own_out hi hc
    obtain ⟨p, o, h1, h2⟩ := rep.own i c d hi hc
    exact ⟨p, o, (wipe_some h1).1, h2⟩
  · intro i j c c' d1 d2 p hi hc hj hc' s1 s2
    obtain ⟨m1, hi⟩ := own_out hi hc
    obtain ⟨m2, hj⟩ := own_out hj hc'
    exact rep.sep i j c c' d1 d2 p hi hc hj hc' (by rw [wipe_out m1]; exact s1) (by rw [wipe_out m2]; exact s2)
  · intro q hq
    obtain ⟨q1, d, q2⟩ := rep0.io q hq
    have hm : q.1 ∉ vs := fun z => by
      obtain ⟨c, h1, h2⟩ := nh q.1 z
      rw [q2] at h1; cases h1; cases h2
    obtain ⟨r1, d', r2⟩ := rep.io q hq
    exact ⟨q1, d', by rw [get, if_neg hm]; exact r2⟩

/-! ### an object that stands by -/
def Gd.pin (G : Gd) (p : Addr) (o : HO) : Gd := { G with H0 := upd G.H0 p o }
theorem Rep.pin {p : Addr} {o : HO} (rep : Rep K G F e σ H) (hp : H p = none) : Rep K (G.pin p o) F e σ (upd H p o) ∧ G.F0 p = none ∧ p ∉ G.ads ∧ G.H0 p = none := by
  have hF : F p = none := rep.sub.free hp
  have hF0 : G.F0 p = none := rep.sub0.free hF
  have hH0 := rep.free_H0 hp
  have hads := rep.free_ads hp
  have r1 := rep.adds (.new0 (o := o) rep.sub hp)
  refine ⟨⟨r1.sub, r1.sub0, ?_, ?_, r1.len, r1.dat, ?_, r1.sep, r1.io⟩, hF0, hads, hH0⟩
  · intro b x hb
    rcases rep.fr b x hb with q | q
    · exact .inl q
    · refine .inr ?_
      show upd G.H0 p o b = none
      rw [upd_ne (show b ≠ p from fun z => by rw [z, hF] at hb; cases hb)]; exact q
  · intro b x hb hn
    rcases upd_some hb with ⟨rfl, rfl⟩ | ⟨ne, hb⟩
    · exact upd_same
    · rw [upd_ne ne]; exact rep.frame b x hb hn
  · intro i c d hi hc
    obtain ⟨p', o', q1, q2, q3, q4, q5, q6⟩ := r1.own i c d hi hc
    refine ⟨p', o', q1, q2, q3, q4, fun z => ?_, q6⟩
    show upd G.H0 p o p' = none
    have : p' ≠ p := fun w => by
      obtain ⟨p2, o2, w1, w2, _⟩ := rep.own i c d hi hc
      rw [q1] at w1; cases w1
      rw [w, hp] at w2; cases w2
    rw [upd_ne this]; exact q5 z
/-- the object that stands by is another one from here on -/
theorem Rep.repin {p : Addr} {o o' : HO} (rep : Rep K (G.pin p o) F e σ H) (hF0 : G.F0 p = none) (hads : p ∉ G.ads) : Rep K (G.pin p o') F e σ (upd H p o') := by
  have hF : F p = none := by
    cases q : F p with
    | none => rfl
    | some x =>
      rcases rep.fr p x q with z | z
      · rw [show (G.pin p o).F0 = G.F0 from rfl, hF0] at z; cases z
      · rw [show (G.pin p o).H0 p = some o from upd_same] at z; cases z
  refine ⟨?_, rep.sub0, ?_, ?_, rep.len, rep.dat, ?_, rep.sep, rep.io⟩
  · intro b x hb
    rw [upd_ne (show b ≠ p from fun z => by rw [z, hF] at hb; cases hb)]; exact rep.sub b x hb
  · intro b x hb
    rcases rep.fr b x hb with q | q
    · exact .inl q
    · refine .inr ?_
      have ne : b ≠ p := fun z => by rw [z, hF] at hb; cases hb
      show upd G.H0 p o' b = none
      rw [upd_ne ne]
      have : upd G.H0 p o b = none := q
      rw [upd_ne ne] at this; exact this
  · intro b x hb hn
    rcases upd_some hb with ⟨rfl, rfl⟩ | ⟨ne, hb⟩
    · exact upd_same
    · rw [upd_ne ne]; exact rep.frame b x (by show upd G.H0 p o b = some x; rw [upd_ne ne]; exact hb) hn
  · intro i c d hi hc
    obtain ⟨p', o2, q1, q2, q3, q4, q5, q6⟩ := rep.own i c d hi hc
    have ne : p' ≠ p := fun w => by
      subst w
      cases c with
      | own q => have := q5 ⟨q, rfl⟩; rw [show (G.pin p' o).H0 p' = some o from upd_same] at this; cases this
      | io q => exact hads (List.mem_map.mpr ⟨(i, p'), q6 ⟨q, rfl⟩, rfl⟩)
      | _ => cases hc
    refine ⟨p', o2, q1, by rw [upd_ne ne]; exact q2, q3, q4, fun z => ?_, q6⟩
    show upd G.H0 p o' p' = none
    have := q5 z
    rw [show (G.pin p o).H0 p' = upd G.H0 p o p' from rfl, upd_ne ne] at this
    rw [upd_ne ne]; exact this
theorem Rep.unpin {p : Addr} {o : HO} (rep : Rep K (G.pin p o) F e σ H) (hH0 : G.H0 p = none) (hF0 : G.F0 p = none) : Rep K G F e σ H ∧ F p = none := by
  have hF : F p = none := by
    cases q : F p with
    | none => rfl
    | some x =>
      rcases rep.fr p x q with z | z
      · rw [show (G.pin p o).F0 = G.F0 from rfl, hF0] at z; cases z
      · rw [show (G.pin p o).H0 p = some o from upd_same] at z; cases z
  refine ⟨⟨rep.sub, rep.sub0, ?_, ?_, rep.len, rep.dat, ?_, rep.sep, rep.io⟩, hF⟩
  · intro b x hb
    rcases rep.fr b x hb with q | q
    · exact .inl q
    · have ne : b ≠ p := fun z => by rw [z, hF] at hb; cases hb
      have : upd G.H0 p o b = none := q
      rw [upd_ne ne] at this
      exact .inr this
  · intro b x hb hn
    have ne : b ≠ p := fun z => by rw [z, hH0] at hb; cases hb
    exact rep.frame b x (by show upd G.H0 p o b = some x; rw [upd_ne ne]; exact hb) hn
  · intro i c d hi hc
    obtain ⟨p', o2, q1, q2, q3, q4, q5, q6⟩ := rep.own i c d hi hc
    refine ⟨p', o2, q1, q2, q3, q4, fun z => ?_, q6⟩
    have := q5 z
    rw [show (G.pin p o).H0 p' = upd G.H0 p o p' from rfl] at this
    by_cases e1 : p' = p
    · rw [e1]; exact hH0
    · rw [upd_ne e1] at this; exact this
theorem Rep.pinned {p : Addr} {o : HO} (rep : Rep K (G.pin p o) F e σ H) (hads : p ∉ G.ads) : H p = some o := rep.frame p o upd_same hads
theorem Rep.freshPin {p : Addr} {o : HO} {d : D} (rep : Rep K (G.pin p o) F e σ H) (hH0 : G.H0 p = none) (hF0 : G.F0 p = none) (hads : p ∉ G.ads) (ho : Own K F o d) : Rep K G F e σ H ∧ Fresh K G F e σ H p d := by
  obtain ⟨r1, hF⟩ := rep.unpin hH0 hF0
  refine ⟨r1, ⟨o, rep.pinned hads, ho⟩, hF, hH0, fun i c d' hc hd hs => ?_⟩
  obtain ⟨p', o2, q1, q2, q3, q4, q5, q6⟩ := rep.own i c d' hc hd
  rw [hs] at q1
  cases q1
  cases c with
  | own q => have := q5 ⟨q, rfl⟩; rw [show (G.pin p o).H0 p = some o from upd_same] at this; cases this
  | io q => exact hads (List.mem_map.mpr ⟨(i, p), q6 ⟨q, rfl⟩, rfl⟩)
  | _ => cases hd
end

/-! ### [el for tg in it if c] -/
def dLcGo (g : GD) (c : TD) (el : XD) (vs : List Nat) : List D → Env → Option (List D × Env)
  | [], e => some ([], e)
  | d :: ds, e => (g d e).bind fun e1 => (c e1).bind fun p => if p.1 = true then
      (el p.2).bind fun q => (q.1.take q.2).bind fun y => (wipeC vs y.2).bind fun e5 => (dLcGo g c el vs ds e5).map fun r => (y.1 :: r.1, r.2)
    else (wipeC vs p.2).bind fun e5 => dLcGo g c el vs ds e5
def dLc (fi : ID) (g : GD) (c : TD) (el : XD) (vs : List Nat) : ND := fun e => (fi e).bind fun p => if p.1.length ≤ 16777216 then
  (wipeC vs p.2).bind fun e1 => (dLcGo g c el vs p.1 e1).map fun r => (.list r.1, unwE p.2 vs r.2) else none
section
variable {X : Cx} {K : PySem.W.Frag} {k : Nat} {vs : List Nat}
def SemTs (K : PySem.W.Frag) (t : TT) (f : TD) : Prop := SemT K t f
theorem sem_lc {wi : TI} {g : TG} {tt : TT} {te : TE} {fi : ID} {gd : GD} {fc : TD} {el : XD} {ws : List Nat} (si : SemI K wi fi) (sg : SemG K ws g gd) (st : SemT K tt fc) (se : SemE K te el) (hws : ∀ i ∈ ws, i ∈ vs) : SemN K (tLc wi g tt te vs) (dLc fi gd fc el vs) := by
  intro G F e σ H d e' Q rep hf q
  unfold dLc at hf
  simp only [Option.bind_eq_some_iff] at hf
  obtain ⟨⟨ds, e1⟩, h1, hf⟩ := hf
  split at hf
  · rename_i hlen
    replace hlen : ds.length ≤ 16777216 := hlen
    simp only [Option.bind_eq_some_iff, Option.map_eq_some_iff] at hf
    obtain ⟨e2, h2, ⟨zs, e3⟩, h3, hf⟩ := hf
    cases hf
    refine si G F e σ H ds e1 _ rep h1 fun J F1 H1 rep1 ss1 itd D hD => ?_
    have repw := rep1.wipe h2
    obtain ⟨repp, hF0, hads, hH0⟩ := repw.pin (o := .lst []) hD
    refine ⟨fun i m H => ∃ F2 ex acc dacc rest, Rep K (G.pin D (.lst acc)) F2 ex (L2.wipe σ vs) H ∧ Same F1 F2 ∧ AtL K F2 acc dacc ∧ dLcGo gd fc el vs (ds.drop i) ex = some (rest, e3) ∧ zs = dacc ++ rest ∧ dacc.length ≤ i ∧ m = ds.length - i,
      ⟨_, F1, e2, [], [], zs, repp, .refl _, .nil, h3, rfl, Nat.le_refl _, rfl⟩, ?_⟩
    rintro i m H2 ⟨F2, ex, acc, dacc, rest, rep2, ss2, al, hgo, hz, hai, rfl⟩
    cases hd : ds.drop i with
    | nil =>
      rw [hd] at hgo
      cases hgo
      have hle : ds.length ≤ i := by simpa using hd
      obtain ⟨r1, f1⟩ := rep2.freshPin hH0 hF0 hads (Own.lst al)
      refine .inl ⟨itd.stop i F2 H2 ss2 rep2.sub hle, ?_⟩
      have r2 := rep1.unw h2 r1 ss2
      rw [List.append_nil] at hz
      subst hz
      refine q D F2 H2 r2 (ss1.trans ss2) ⟨f1.ob, f1.f, f1.h0, fun j c d' hj hc hs => ?_⟩
      obtain ⟨p', o2, q1, q2, q3, q4, q5, q6⟩ := r2.own j c d' hj hc
      rw [hs] at q1
      cases q1
      -- the cell stands outside of vs, and as in the wiped frame
      have hl : e3.length = e1.length := by rw [r1.len, wipe_length, rep1.len]
      rw [unwE_get e1 vs e3 hl] at hj
      by_cases hm : j ∈ vs
      · rw [if_pos hm] at hj
        obtain ⟨c', g1, g2⟩ := wipeC_in h2 j hm
        rw [hj] at g1; cases g1; rw [hc] at g2; cases g2
      · rw [if_neg hm] at hj
        exact f1.ne j c d' hj hc (by rw [wipe_out hm]; exact hs)
    | cons d r =>
      obtain ⟨hdi, hdr⟩ := drop_cons hd
      have hlt : i < ds.length := (List.getElem?_eq_some_iff.mp hdi).1
      rw [hd] at hgo
      simp only [dLcGo, Option.bind_eq_some_iff] at hgo
      obtain ⟨e4, h4, ⟨b, e5⟩, h5, hgo⟩ := hgo
      refine .inr ⟨itd.go i d F2 H2 ss2 rep2.sub hdi, fun H => ∃ F2 ex acc dacc rest, Rep K (G.pin D (.lst acc)) F2 ex (L2.wipe σ vs) H ∧ Same F1 F2 ∧ AtL K F2 acc dacc ∧ dLcGo gd fc el vs (ds.drop (i + 1)) ex = some (rest, e3) ∧ zs = dacc ++ rest ∧ dacc.length ≤ i + 1, ?_, fun x H' hy => ?_⟩
      · rintro H' ⟨F', ex', acc', dacc', rest', r1, r2, r3, r4, r5, r6⟩
        exact ⟨ds.length - (i + 1), by omega, F', ex', acc', dacc', rest', r1, r2, r3, r4, r5, r6, rfl⟩
      · obtain ⟨F3, ad, ax⟩ := itd.yld i d F2 H2 x H' ss2 rep2.sub hdi hy
        refine sg _ F3 ex _ H' x d e4 _ (rep2.adds ad) ax h4 fun σ4 F4 H4 rep4 ss4 off => ?_
        have hwp : L2.wipe σ4 vs = L2.wipe σ vs := by
          apply List.ext_getElem?
          intro j
          by_cases hm : j ∈ vs
          · have hin : ∀ (τ : St), τ.length = σ.length → (L2.wipe τ vs)[j]? = if j < σ.length then some none else none := by
              intro τ hτ
              have key : ∀ (ws : List Nat), j ∈ ws → (L2.wipe τ ws)[j]? = if j < τ.length then some none else none := by
                intro ws
                induction ws with
                | nil => intro h; cases h
                | cons w ws ih =>
                  intro h
                  unfold L2.wipe
                  by_cases hw : w = j
                  · subst hw
                    by_cases hlt' : w < τ.length
                    · rw [List.getElem?_set_self (by rw [wipe_length]; exact hlt'), if_pos hlt']
                    · rw [List.getElem?_eq_none_iff.mpr (by rw [List.length_set, wipe_length]; omega), if_neg hlt']
                  · rw [List.getElem?_set_ne hw]
                    exact ih (by rcases List.mem_cons.mp h with z | z; exact (hw z.symm).elim; exact z)
              rw [key vs hm, hτ]
            rw [hin σ4 (by rw [off.1, wipe_length]), hin σ rfl]
          · rw [wipe_out hm, off.2 j (fun z => hm (hws j z)), ]
        refine ⟨hwp, st _ F4 e4 σ4 H4 b e5 _ rep4 h5 fun F5 H5 rep5 ss5 => ?_⟩
        have s15 : Same F2 F5 := ad.ff.trans (ss4.trans ss5)
        cases b with
        | true =>
          simp only [if_true, Option.bind_eq_some_iff, Option.map_eq_some_iff] at hgo
          obtain ⟨⟨ry, e6⟩, h6, ⟨y, e7⟩, h7, e8, h8, ⟨rest', e9⟩, h9, hgo⟩ := hgo
          cases hgo
          refine iteT (se _ F5 e5 σ4 H5 ry e6 _ rep5 h6 fun w F6 H6 rep6 ss6 a6 => ?_)
          obtain ⟨F7, rep7, ss7, a7⟩ := rep6.take a6 h7
          have rep8 := rep7.wipe h8
          rw [hwp] at rep8
          refine ⟨acc, rep6.pinned hads, by rw [al.len]; exact lim_lt (by omega), F7, e8, acc ++ [w], dacc ++ [y], rest', rep8.repin hF0 hads, ss2.trans (s15.trans (ss6.trans ss7)), (al.mono (s15.trans (ss6.trans ss7))).app (.cons a7 .nil), ?_, ?_, ?_⟩
          · rw [hdr]; exact h9
          · rw [List.append_assoc]; exact hz
          · rw [List.length_append]; simpa using hai
        | false =>
          simp only [Bool.false_eq_true, if_false, Option.bind_eq_some_iff] at hgo
          obtain ⟨e8, h8, h9⟩ := hgo
          have rep8 := rep5.wipe h8
          rw [hwp] at rep8
          exact iteF ⟨F5, e8, acc, dacc, rest, rep8, ss2.trans s15, al.mono s15, by rw [hdr]; exact h9, hz, by omega⟩
  · cases hf
/-! as an expression, as a statement -/
def dYes : TD := fun e => some (true, e)
theorem sem_yes : SemT K tYes dYes := fun G F e σ H b e' Q rep hf q => by cases hf; exact q F H rep (.refl _)
def PTsd (X : Cx) (K : PySem.W.Frag) (ifs : List Expr) (f : TD) : Prop := ∃ t, PTs X ifs t ∧ SemT K t f
theorem ptsd_nil : PTsd X K [] dYes := ⟨_, pts_nil, sem_yes⟩
theorem ptsd_one {c : Expr} {f : TD} (h : PTd X K c f) : PTsd X K [c] f := by
  obtain ⟨t, h, s⟩ := h; exact ⟨t, pts_one h, s⟩

variable {elt tg iter : Expr} {ifs : List Expr} {scope : Scope} {own : List (Str × Nat)} {pos spos : Pos} {fi : ID} {gd : GD} {fc : TD} {el : XD} {ws : List Nat}
/-! one reading for all blocks -/
def cE (K : PySem.W.Frag) (f : XD) : TE := fun σ H Q => ∃ G F e r e', Rep K G F e σ H ∧ f e = some (r, e') ∧ ∀ v F' H', Rep K G F' e' σ H' → Same F F' → RAt K F' e' σ v r → Q v H'
def cN (K : PySem.W.Frag) (f : ND) : TE := fun σ H Q => ∃ G F e d e', Rep K G F e σ H ∧ f e = some (d, e') ∧ ∀ p F' H', Rep K G F' e' σ H' → Same F F' → Fresh K G F' e' σ H' p d → Q (.ref p) H'
def cT (K : PySem.W.Frag) (f : TD) : TT := fun σ H Q => ∃ G F e b e', Rep K G F e σ H ∧ f e = some (b, e') ∧ ∀ F' H', Rep K G F' e' σ H' → Same F F' → Q b H'
def cG (K : PySem.W.Frag) (ws : List Nat) (f : GD) : TG := fun v σ H Q => ∃ G F e d e', Rep K G F e σ H ∧ At K F v d ∧ f d e = some e' ∧ ∀ σ' F' H', Rep K G F' e' σ' H' → Same F F' → offS ws σ σ' → Q σ' H'
def cI (K : PySem.W.Frag) (f : ID) : TI := fun σ H R => ∃ G F e ds e', Rep K G F e σ H ∧ f e = some (ds, e') ∧ ∀ J F' H', Rep K G F' e' σ H' → Same F F' → ItD K J F' ds → R J H'
theorem sem_cE {f : XD} : SemE K (cE K f) f := fun G F e σ H r e' Q rep hf q => ⟨G, F, e, r, e', rep, hf, q⟩
theorem sem_cN {f : ND} : SemN K (cN K f) f := fun G F e σ H r e' Q rep hf q => ⟨G, F, e, r, e', rep, hf, q⟩
theorem sem_cT {f : TD} : SemT K (cT K f) f := fun G F e σ H r e' Q rep hf q => ⟨G, F, e, r, e', rep, hf, q⟩
theorem sem_cG {f : GD} {ws : List Nat} : SemG K ws (cG K ws f) f := fun G F e σ H v d e' Q rep ha hf q => ⟨G, F, e, d, e', rep, ha, hf, q⟩
theorem sem_cI {f : ID} : SemI K (cI K f) f := fun G F e σ H ds e' R rep hf q => ⟨G, F, e, ds, e', rep, hf, q⟩
theorem PEd.canon {ex : Expr} {f : XD} (h : PEd X K ex f) : PE X ex (cE K f) := by
  obtain ⟨t, h, s⟩ := h
  exact ⟨fun pins s0 σ H Q I ⟨G, F, e, r, e', rep, hf, q⟩ => h.run pins s0 σ H Q I (s G F e σ H r e' Q rep hf q)⟩
theorem PNd.canon {ex : Expr} {f : ND} (h : PNd X K ex f) : PE X ex (cN K f) := by
  obtain ⟨t, h, s⟩ := h
  exact ⟨fun pins s0 σ H Q I ⟨G, F, e, r, e', rep, hf, q⟩ => h.run pins s0 σ H Q I (s G F e σ H r e' Q rep hf q)⟩
theorem PTsd.canon {ifs : List Expr} {f : TD} (h : PTsd X K ifs f) : PTs X ifs (cT K f) := by
  obtain ⟨t, h, s⟩ := h
  exact ⟨fun pins s0 σ H Q I ⟨G, F, e, r, e', rep, hf, q⟩ => h.run pins s0 σ H Q I (s G F e σ H r e' Q rep hf q)⟩
theorem PGd.canon {ex : Expr} {f : GD} {ws : List Nat} (h : PGd X K ws ex f) : PG X ex (cG K ws f) := by
  obtain ⟨t, h, s⟩ := h
  exact ⟨fun pins s0 σ H v u Q I r ⟨G, F, e, d, e', rep, ha, hf, q⟩ => h.run pins s0 σ H v u Q I r (s G F e σ H v d e' Q rep ha hf q)⟩
theorem PId.canon {tg ex : Expr} {f : ID} (h : PId X K tg ex f) : PI X tg ex (cI K f) := by
  obtain ⟨t, h, s⟩ := h
  exact ⟨fun pins s0 σ H R I ⟨G, F, e, ds, e', rep, hf, q⟩ => h.run pins s0 σ H R I (s G F e σ H ds e' R rep hf q)⟩
theorem Good.blk (g : Good X K k) {s : Shared} {H : Hp} {C : Addr} {cl : List (Str × Addr)} {fp : List Addr} : Good (X.blk s H scope (compEnvC scope cl C X.env) fp) K k := ⟨g.K, g.calm, g.nd, g.room⟩
/-- in every block of this scope -/
abbrev Blk (X : Cx) (scope : Scope) (P : Cx → Prop) : Prop := ∀ (s : Shared) (H : Hp) (C : Addr) (cl : List (Str × Addr)) (fp : List Addr), P (X.blk s H scope (compEnvC scope cl C X.env) fp)
theorem pnd_lc (g0 : Good X K k) (hi : PId X K tg iter fi) (ok : BlkOk X.N X.env.scope scope own)
    (hg : Blk X scope fun Y => PGd Y K ws tg gd) (ht : Blk X scope fun Y => PTsd Y K ifs fc) (he : Blk X scope fun Y => PEd Y K elt el) (hws : ∀ i ∈ ws, i ∈ own.map (·.2) := by decide) (hs : ∀ x, foldedSetIterable iter X.env x = pure x := by intro _; rfl) :
    PNd X K (.ListComp elt [⟨tg, iter, ifs, 0⟩] scope pos) (dLc fi gd fc el (own.map (·.2))) := by
  obtain ⟨wi, hi, si⟩ := hi
  exact ⟨_, pe_lc g0.calm g0.nd hi ok (fun s H C cl fp => (hg s H C cl fp).canon) (fun s H C cl fp => (ht s H C cl fp).canon) (fun s H C cl fp => (he s H C cl fp).canon) hs, sem_lc si sem_cG sem_cT sem_cE hws⟩
section
variable {i : Nat} {y : Str} {py : Pos}
theorem psd_setLcN (g0 : Good X K k) (hi : PId X K tg iter fi) (ok : BlkOk X.N X.env.scope scope own)
    (hg : Blk X scope fun Y => PGd Y K ws tg gd) (ht : Blk X scope fun Y => PTsd Y K ifs fc) (he : Blk X scope fun Y => PEd Y K elt el)
    (hsw : swapsWith (.ListComp elt [⟨tg, iter, ifs, 0⟩] scope pos) (some (.Name y py)) spos.line X.env = pure true) (hy : X.N[i]? = some y := by rfl) (hyl : X.env.scope.names.lookup y = some .local := by rfl)
    (hws : ∀ i ∈ ws, i ∈ own.map (·.2) := by decide) (hs : ∀ x, foldedSetIterable iter X.env x = pure x := by intro _; rfl) :
    PSd X K (.Assign [.Name y py] (.ListComp elt [⟨tg, iter, ifs, 0⟩] scope pos) spos) (dSetN i (dLc fi gd fc el (own.map (·.2)))) := by
  obtain ⟨wi, hi, si⟩ := hi
  exact ⟨_, ps_setLc g0.calm g0.nd hy hyl hsw hi ok (fun s H C cl fp => (hg s H C cl fp).canon) (fun s H C cl fp => (ht s H C cl fp).canon) (fun s H C cl fp => (he s H C cl fp).canon) hs, sem_setN (sem_lc si sem_cG sem_cT sem_cE hws)⟩
/-- the reading of a new object as data -/
theorem sem_n {t : TE} {f : ND} (h : SemN K t f) : SemE K t (dN f) := by
  intro G F e σ H r e' Q rep hf q
  unfold dN at hf
  cases hfe : f e with
  | none => rw [hfe] at hf; cases hf
  | some y =>
    rw [hfe] at hf
    cases hf
    refine h G F e σ H y.1 y.2 Q rep (by rw [hfe]) fun p F' H' rep' s fr => ?_
    obtain ⟨F2, rep2, s2, a2⟩ := rep'.keep fr
    exact q _ F2 H' rep2 (s.trans s2) a2
theorem psd_setLc (g0 : Good X K k) (hi : PId X K tg iter fi) (ok : BlkOk X.N X.env.scope scope own)
    (hg : Blk X scope fun Y => PGd Y K ws tg gd) (ht : Blk X scope fun Y => PTsd Y K ifs fc) (he : Blk X scope fun Y => PEd Y K elt el)
    (hsw : swapsWith (.ListComp elt [⟨tg, iter, ifs, 0⟩] scope pos) (some (.Name y py)) spos.line X.env = pure true) (hy : X.N[i]? = some y := by rfl) (hyl : X.env.scope.names.lookup y = some .local := by rfl)
    (hws : ∀ i ∈ ws, i ∈ own.map (·.2) := by decide) (hs : ∀ x, foldedSetIterable iter X.env x = pure x := by intro _; rfl) :
    PSd X K (.Assign [.Name y py] (.ListComp elt [⟨tg, iter, ifs, 0⟩] scope pos) spos) (dSet i (dN (dLc fi gd fc el (own.map (·.2))))) := by
  obtain ⟨wi, hi, si⟩ := hi
  exact ⟨_, ps_setLc g0.calm g0.nd hy hyl hsw hi ok (fun s H C cl fp => (hg s H C cl fp).canon) (fun s H C cl fp => (ht s H C cl fp).canon) (fun s H C cl fp => (he s H C cl fp).canon) hs, sem_set (sem_n (sem_lc si sem_cG sem_cT sem_cE hws))⟩
end
end
end HD

namespace HD
open PySem PySem.Spec PyProof.Rows L2

/-! ### a def's promise by data: ms tells which arguments are objects to be changed -/
inductive ArgsAt (K : PySem.W.Frag) (F H : Hp) : List Bool → List V → List D → Prop
  | nil : ArgsAt K F H [] [] []
  | dat {ms : List Bool} {v : V} {vs : List V} {d : D} {ds : List D} : At K F v d → ArgsAt K F H ms vs ds → ArgsAt K F H (false :: ms) (v :: vs) (d :: ds)
  | io {ms : List Bool} {p : Addr} {o : HO} {vs : List V} {d : D} {ds : List D} : H p = some o → Own K F o d → F p = none → ArgsAt K F H ms vs ds → ArgsAt K F H (true :: ms) (.ref p :: vs) (d :: ds)
def ioOf : List Bool → List V → List Addr
  | true :: ms, .ref p :: vs => p :: ioOf ms vs
  | _ :: ms, _ :: vs => ioOf ms vs
  | _, _ => []
def ioSlots : Nat → List Bool → List V → List (Nat × Addr)
  | i, true :: ms, .ref p :: vs => (i, p) :: ioSlots (i + 1) ms vs
  | i, _ :: ms, _ :: vs => ioSlots (i + 1) ms vs
  | _, _, _ => []
theorem ioSlots_snd : ∀ (i : Nat) (ms : List Bool) (vs : List V), (ioSlots i ms vs).map (·.2) = ioOf ms vs
  | i, [], vs => by simp [ioSlots, ioOf]
  | i, m :: ms, [] => by cases m <;> simp [ioSlots, ioOf]
  | i, false :: ms, v :: vs => by simp [ioSlots, ioOf, ioSlots_snd (i + 1) ms vs]
  | i, true :: ms, v :: vs => by cases v <;> simp [ioSlots, ioOf, ioSlots_snd (i + 1) ms vs]
def OutsAt (K : PySem.W.Frag) (F H : Hp) : List Addr → List D → Prop
  | [], [] => True
  | p :: ps, d :: ds => (∃ o, H p = some o ∧ Own K F o d ∧ F p = none) ∧ OutsAt K F H ps ds
  | _, _ => False
def spF (K : PySem.W.Frag) (ms : List Bool) (f : List D → Option (D × List D)) : Sp := fun vs H Q _ => ∃ F ds z outs, Same F H ∧ ArgsAt K F H ms vs ds ∧ (ioOf ms vs).Nodup ∧ f ds = some (z, outs) ∧
  ∀ w F' H', (∀ b x, H b = some x → b ∉ ioOf ms vs → H' b = some x) → Same F F' → Same F' H' → (∀ b x, F' b = some x → F b = some x ∨ H b = none) → At K F' w z → OutsAt K F' H' (ioOf ms vs) outs → Q w H'
def initE : List Bool → List D → Option Env
  | [], [] => some []
  | m :: ms, d :: ds => (initE ms ds).map fun e => (if m = true then Cell.io d else Cell.dat d) :: e
  | _, _ => none
def outsE (e : Env) : Nat → List Bool → Option (List D)
  | _, [] => some []
  | i, true :: ms => match e[i]? with
    | some (.io d) => (outsE e (i + 1) ms).map fun ds => d :: ds
    | _ => none
  | i, false :: ms => outsE e (i + 1) ms
def dFn (n : Nat) (ms : List Bool) (body : SD) : List D → Option (D × List D) := fun ds => (initE ms ds).bind fun e => (body (e ++ List.replicate (n - ms.length) .un)).bind fun o => match o with
  | .rt d e' => (outsE e' 0 ms).map fun os => (d, os)
  | .nx e' => (outsE e' 0 ms).map fun os => (.none, os)
  | _ => none
section
variable {K : PySem.W.Frag} {F H : Hp}
theorem ArgsAt.len {ms : List Bool} {vs : List V} {ds : List D} (h : ArgsAt K F H ms vs ds) : vs.length = ms.length ∧ ds.length = ms.length := by
  induction h with
  | nil => exact ⟨rfl, rfl⟩
  | dat _ _ ih => exact ⟨by simp [ih.1], by simp [ih.2]⟩
  | io _ _ _ _ ih => exact ⟨by simp [ih.1], by simp [ih.2]⟩
theorem initE_len : ∀ {ms : List Bool} {ds : List D} {e : Env}, initE ms ds = some e → e.length = ms.length
  | [], [], e, h => by cases h; rfl
  | m :: ms, d :: ds, e, h => by
    simp only [initE, Option.map_eq_some_iff] at h
    obtain ⟨e', h1, rfl⟩ := h
    simp [initE_len h1]
  | [], _ :: _, _, h => by cases h
  | _ :: _, [], _, h => by cases h
/-- a cell at the start -/
theorem ArgsAt.cell {ms : List Bool} {vs : List V} {ds : List D} (h : ArgsAt K F H ms vs ds) : ∀ {e : Env} (j : Nat), initE ms ds = some e → ∀ (i : Nat) (c : Cell), e[i]? = some c →
    (∃ v d, vs[i]? = some v ∧ c = .dat d ∧ At K F v d) ∨ ∃ p o d, vs[i]? = some (.ref p) ∧ c = .io d ∧ H p = some o ∧ Own K F o d ∧ F p = none ∧ (j + i, p) ∈ ioSlots j ms vs := by
  induction h with
  | nil => intro e j he i c hc; cases he; simp at hc
  | dat ha hr ih =>
    rename_i ms v vs d ds
    intro e j he i c hc
    simp only [initE, Option.map_eq_some_iff] at he
    obtain ⟨e', he', rfl⟩ := he
    cases i with
    | zero => simp at hc; subst hc; exact .inl ⟨v, d, rfl, rfl, ha⟩
    | succ i =>
      rcases ih (j + 1) he' i c (by simpa using hc) with ⟨v', d', h1, h2, h3⟩ | ⟨p, o, d', h1, h2, h3, h4, h5, h6⟩
      · exact .inl ⟨v', d', by simpa using h1, h2, h3⟩
      · refine .inr ⟨p, o, d', by simpa using h1, h2, h3, h4, h5, ?_⟩
        have : j + 1 + i = j + (i + 1) := by omega
        rw [this] at h6
        simpa [ioSlots] using h6
  | io hp ho hf hr ih =>
    rename_i ms p o vs d ds
    intro e j he i c hc
    simp only [initE, Option.map_eq_some_iff] at he
    obtain ⟨e', he', rfl⟩ := he
    cases i with
    | zero => simp at hc; subst hc; exact .inr ⟨p, o, d, rfl, rfl, hp, ho, hf, by simp [ioSlots]⟩
    | succ i =>
      rcases ih (j + 1) he' i c (by simpa using hc) with ⟨v', d', h1, h2, h3⟩ | ⟨p, o, d', h1, h2, h3, h4, h5, h6⟩
      · exact .inl ⟨v', d', by simpa using h1, h2, h3⟩
      · refine .inr ⟨p, o, d', by simpa using h1, h2, h3, h4, h5, ?_⟩
        have : j + 1 + i = j + (i + 1) := by omega
        rw [this] at h6
        simp only [ioSlots, List.mem_cons]
        exact .inr h6
theorem ArgsAt.slot {ms : List Bool} {vs : List V} {ds : List D} (h : ArgsAt K F H ms vs ds) : ∀ {e : Env} (j : Nat), initE ms ds = some e → ∀ q ∈ ioSlots j ms vs, ∃ i, q.1 = j + i ∧ vs[i]? = some (.ref q.2) ∧ ∃ d, e[i]? = some (.io d) := by
  induction h with
  | nil => intro e j he q hq; simp [ioSlots] at hq
  | dat ha hr ih =>
    intro e j he q hq
    simp only [initE, Option.map_eq_some_iff] at he
    obtain ⟨e', he', rfl⟩ := he
    obtain ⟨i, h1, h2, d, h3⟩ := ih (j + 1) he' q (by simpa [ioSlots] using hq)
    exact ⟨i + 1, by omega, by simpa using h2, d, by simpa using h3⟩
  | io hp ho hf hr ih =>
    intro e j he q hq
    simp only [initE, Option.map_eq_some_iff] at he
    obtain ⟨e', he', rfl⟩ := he
    simp only [ioSlots, List.mem_cons] at hq
    rcases hq with rfl | hq
    · exact ⟨0, rfl, rfl, _, rfl⟩
    · obtain ⟨i, h1, h2, d, h3⟩ := ih (j + 1) he' q hq
      exact ⟨i + 1, by omega, by simpa using h2, d, by simpa using h3⟩
theorem ioSlots_uniq : ∀ {j : Nat} {ms : List Bool} {vs : List V} {a b : Nat} {p : Addr}, (ioOf ms vs).Nodup → (a, p) ∈ ioSlots j ms vs → (b, p) ∈ ioSlots j ms vs → a = b := by
  intro j ms vs a b p hn ha hb
  rw [← ioSlots_snd j] at hn
  revert hn ha hb
  generalize ioSlots j ms vs = l
  intro hn ha hb
  induction l with
  | nil => cases ha
  | cons q l ih =>
    rw [List.map_cons, List.nodup_cons] at hn
    by_cases h1 : (a, p) = q
    · by_cases h2 : (b, p) = q
      · rw [← h2] at h1; exact congrArg Prod.fst h1
      · have hb' : (b, p) ∈ l := by rcases List.mem_cons.mp hb with z | z; exact (h2 z).elim; exact z
        exact (hn.1 (List.mem_map.mpr ⟨_, hb', by rw [← h1]⟩)).elim
    · have ha' : (a, p) ∈ l := by rcases List.mem_cons.mp ha with z | z; exact (h1 z).elim; exact z
      by_cases h2 : (b, p) = q
      · exact (hn.1 (List.mem_map.mpr ⟨_, ha', by rw [← h2]⟩)).elim
      · have hb' : (b, p) ∈ l := by rcases List.mem_cons.mp hb with z | z; exact (h2 z).elim; exact z
        exact ih hn.2 ha' hb'
theorem rep_start {N : List Str} {ms : List Bool} {vs : List V} {ds : List D} {e : Env} (hs : Same F H) (ha : ArgsAt K F H ms vs ds) (hn : (ioOf ms vs).Nodup) (he : initE ms ds = some e) (hN : ms.length ≤ N.length) :
    Rep K ⟨H, F, ioSlots 0 ms vs⟩ F (e ++ List.replicate (N.length - ms.length) .un) (L2.start N vs) H := by
  have hel := initE_len he
  have hvl := ha.len.1
  have low : ∀ {i : Nat} {c : Cell}, (e ++ List.replicate (N.length - ms.length) Cell.un)[i]? = some c → c ≠ .un → e[i]? = some c := by
    intro i c hc hn
    by_cases hi : i < e.length
    · rw [List.getElem?_append_left hi] at hc; exact hc
    · rw [List.getElem?_append_right (by omega)] at hc
      have := List.mem_of_getElem? hc
      rw [List.mem_replicate] at this
      exact (hn this.2).elim
  have σlow : ∀ {i : Nat} {v : V}, vs[i]? = some v → (L2.start N vs)[i]? = some (some v) := by
    intro i v hv
    unfold L2.start
    have hi := (List.getElem?_eq_some_iff.mp hv).1
    rw [List.getElem?_append_left (by simpa using hi), List.getElem?_map, hv]; rfl
  refine ⟨hs, .refl _, fun b x h => .inl h, fun b x h _ => h, ?_, ?_, ?_, ?_, ?_⟩
  · unfold L2.start
    simp only [List.length_append, List.length_replicate, List.length_map]
    omega
  · intro i d hi
    rcases ha.cell 0 he i _ (low hi (by intro z; cases z)) with ⟨v, d', h1, h2, h3⟩ | ⟨p, o, d', h1, h2, _⟩
    · cases h2; exact ⟨v, σlow h1, h3⟩
    · cases h2
  · intro i c d hi hc
    rcases ha.cell 0 he i _ (low hi (by intro z; subst z; cases hc)) with ⟨v, d', h1, h2, h3⟩ | ⟨p, o, d', h1, h2, h3, h4, h5, h6⟩
    · subst h2; cases hc
    · subst h2
      cases hc
      exact ⟨p, o, σlow h1, h3, h4, h5, fun ⟨_, z⟩ => (by cases z), fun _ => by simpa using h6⟩
  · intro i j c c' d d' p hi hc hj hc' s1 s2
    rcases ha.cell 0 he i _ (low hi (by intro z; subst z; cases hc)) with ⟨v, d', h1, h2, h3⟩ | ⟨p1, o, d1, h1, h2, h3, h4, h5, h6⟩
    · subst h2; cases hc
    rcases ha.cell 0 he j _ (low hj (by intro z; subst z; cases hc')) with ⟨v, d', g1, g2, g3⟩ | ⟨p2, o2, d2, g1, g2, g3, g4, g5, g6⟩
    · subst g2; cases hc'
    have a1 := σlow h1
    rw [s1] at a1; cases a1
    have a2 := σlow g1
    rw [s2] at a2; cases a2
    have := ioSlots_uniq hn h6 g6
    omega
  · intro q hq
    obtain ⟨i, h1, h2, d, h3⟩ := ha.slot 0 he q hq
    rw [Nat.zero_add] at h1
    rw [h1]
    refine ⟨σlow h2, d, ?_⟩
    rw [List.getElem?_append_left (List.getElem?_eq_some_iff.mp h3).1]; exact h3
theorem initE_some : ∀ {ms : List Bool} {ds : List D}, ds.length = ms.length → ∃ e, initE ms ds = some e
  | [], [], _ => ⟨_, rfl⟩
  | m :: ms, d :: ds, h => by
    obtain ⟨e, he⟩ := initE_some (ms := ms) (ds := ds) (by simpa using h)
    exact ⟨_, by rw [initE, he]; rfl⟩
  | [], _ :: _, h => by simp at h
  | _ :: _, [], h => by simp at h
theorem outs_at {G : Gd} {F' H' : Hp} {e : Env} {σ : St} (rep : Rep K G F' e σ H') : ∀ {ms : List Bool} {vs : List V} {os : List D} (i : Nat), vs.length = ms.length → (∀ (j : Nat) (p : Addr), ms[j]? = some true → vs[j]? = some (.ref p) → σ[i + j]? = some (some (.ref p))) →
    (∀ (j : Nat), ms[j]? = some true → ∃ p, vs[j]? = some (.ref p)) → outsE e i ms = some os → OutsAt K F' H' (ioOf ms vs) os
  | [], [], os, i, _, _, _, h => by cases h; simp [ioOf, OutsAt]
  | true :: ms, v :: vs, os, i, hl, hp, hr, h => by
    obtain ⟨p, hv⟩ := hr 0 rfl
    simp at hv
    subst hv
    simp only [outsE] at h
    split at h
    · rename_i d hd
      simp only [Option.map_eq_some_iff] at h
      obtain ⟨ds, h1, rfl⟩ := h
      simp only [ioOf, OutsAt]
      have hσ := hp 0 p rfl rfl
      rw [Nat.add_zero] at hσ
      obtain ⟨p', o, q1, q2, q3, q4, _⟩ := rep.own i _ d hd rfl
      rw [hσ] at q1
      cases q1
      refine ⟨⟨o, q2, q3, q4⟩, outs_at rep (i + 1) (by simpa using hl) (fun j p hm hv => ?_) (fun j hm => ?_) h1⟩
      · have := hp (j + 1) p (by simpa using hm) (by simpa using hv)
        rwa [show i + 1 + j = i + (j + 1) by omega]
      · obtain ⟨p, hv⟩ := hr (j + 1) (by simpa using hm)
        exact ⟨p, by simpa using hv⟩
    · cases h
  | false :: ms, v :: vs, os, i, hl, hp, hr, h => by
    simp only [outsE] at h
    have : ioOf (false :: ms) (v :: vs) = ioOf ms vs := by simp [ioOf]
    rw [this]
    refine outs_at rep (i + 1) (by simpa using hl) (fun j p hm hv => ?_) (fun j hm => ?_) h
    · have := hp (j + 1) p (by simpa using hm) (by simpa using hv)
      rwa [show i + 1 + j = i + (j + 1) by omega]
    · obtain ⟨p, hv⟩ := hr (j + 1) (by simpa using hm)
      exact ⟨p, by simpa using hv⟩
  | [], _ :: _, _, _, hl, _, _, _ => by simp at hl
  | _ :: _, [], _, _, hl, _, _, _ => by simp at hl
theorem ArgsAt.ref {ms : List Bool} {vs : List V} {ds : List D} (h : ArgsAt K F H ms vs ds) : ∀ (j : Nat), ms[j]? = some true → ∃ p, vs[j]? = some (.ref p) := by
  induction h with
  | nil => intro j h; simp at h
  | dat _ _ ih => intro j h; cases j with
    | zero => simp at h
    | succ j => obtain ⟨p, hp⟩ := ih j (by simpa using h); exact ⟨p, by simpa using hp⟩
  | io _ _ _ _ ih => intro j h; cases j with
    | zero => exact ⟨_, rfl⟩
    | succ j => obtain ⟨p, hp⟩ := ih j (by simpa using h); exact ⟨p, by simpa using hp⟩
theorem ArgsAt.inSlots {ms : List Bool} {vs : List V} {ds : List D} (h : ArgsAt K F H ms vs ds) : ∀ (k j : Nat) (p : Addr), ms[j]? = some true → vs[j]? = some (.ref p) → (k + j, p) ∈ ioSlots k ms vs := by
  induction h with
  | nil => intro k j p h; simp at h
  | dat _ _ ih => intro k j p h hv; cases j with
    | zero => simp at h
    | succ j =>
      have := ih (k + 1) j p (by simpa using h) (by simpa using hv)
      rw [show k + 1 + j = k + (j + 1) by omega] at this
      simpa [ioSlots] using this
  | io _ _ _ _ ih => intro k j p h hv; cases j with
    | zero => simp at hv; subst hv; simp [ioSlots]
    | succ j =>
      have := ih (k + 1) j p (by simpa using h) (by simpa using hv)
      rw [show k + 1 + j = k + (j + 1) by omega] at this
      simp only [ioSlots, List.mem_cons]; exact .inr this
end

/-! ### THE RULE for a def -/
section
variable {P : Program} {w : World} {K : PySem.W.Frag} {mg : Str → Option Value} {base : Heap}
theorem fn_ok {x qual : Str} {st : Stmt} {f : Addr} {fd : FuncData} {N ps : List Str} {k : Nat} {ms : List Bool} {body : SD} (F : Fun K x qual st f fd) (S : FnScope N ps (defScope st)) (hm : ms.length = ps.length) (hN : ps.length ≤ N.length)
    (hb : ∀ X : Cx, X.prog = P → X.w = w → X.K = K → X.mg = mg → X.base = base → X.N = N → X.calm = true → X.env.scope = defScope st → X.xe = (fun _ _ => False) → (∀ x, X.fn x = true) → Room k X.A → PSsd X K (defBody st) body) :
    FnOk P w K mg base CX0 (k + 1) f fd ps (spF K ms (dFn N.length ms body)) := by
  refine F.ok S (fun vs H Q E h => ?_) (fun cdv A outer s H vs Q E hr h => ?_)
  · obtain ⟨F0, ds, z, outs, _, ha, _⟩ := h
    rw [ha.len.1, hm]
  · obtain ⟨F0, ds, z, outs, hs, ha, hnd, hf, q⟩ := h
    obtain ⟨t, ht, st'⟩ := hb (cxOf CX0 P w K mg base N qual (defScope st) f cdv A outer s H E).nox rfl rfl rfl rfl rfl rfl rfl rfl rfl (fun _ => rfl) hr
    refine ⟨t, ht, ?_⟩
    unfold dFn at hf
    simp only [Option.bind_eq_some_iff] at hf
    obtain ⟨e, he, o, ho, hf⟩ := hf
    have rep := rep_start (N := N) hs ha hnd he (by omega)
    refine st' _ F0 _ _ H o _ rep ho ?_
    have fin : ∀ {wv : V} {d : D} {e' : Env} {σ : St} {F' H' : Hp} {os : List D}, Rep K ⟨H, F0, ioSlots 0 ms vs⟩ F' e' σ H' → Same F0 F' → At K F' wv d → outsE e' 0 ms = some os → z = d → outs = os → Q wv H' := by
      intro wv d e' σ F' H' os r1 ss aw hos ez eo
      subst ez
      subst eo
      refine q wv F' H' (fun b x hb hn => r1.frame b x hb ?_) ss r1.sub r1.fr aw (outs_at r1 0 ha.len.1 (fun j p hm hv => ?_) ha.ref hos)
      · show b ∉ (ioSlots 0 ms vs).map (·.2)
        rw [ioSlots_snd]; exact hn
      · have := ha.inSlots 0 j p hm hv
        rw [Nat.zero_add] at this ⊢
        exact (r1.io _ this).1
    cases o with
    | nx e' =>
      simp only [Option.map_eq_some_iff] at hf
      obtain ⟨os, h1, h2⟩ := hf
      cases h2
      exact fun σ F' H' r1 ss => fin r1 ss .non h1 rfl rfl
    | rt d e' =>
      simp only [Option.map_eq_some_iff] at hf
      obtain ⟨os, h1, h2⟩ := hf
      cases h2
      exact fun v σ F' H' r1 ss aw => fin r1 ss aw h1 rfl rfl
    | ro d e' => cases hf
    | bk e' => cases hf
    | ct e' => cases hf
end

/-! ### calls -/
/-- the arguments: what stays is taken as data, what is changed is the object of a slot -/
def argsT : List Bool → List R → Env → Option (List D × Env)
  | [], [], e => some ([], e)
  | false :: ms, r :: rs, e => (r.take e).bind fun p => (argsT ms rs p.2).map fun q => (p.1 :: q.1, q.2)
  | true :: ms, .slot i :: rs, e => (argsT ms rs e).bind fun q => (cellAt q.2 i).map fun d => (d :: q.1, q.2)
  | _, _, _ => none
def slotsT : List Bool → List R → List Nat
  | true :: ms, .slot i :: rs => i :: slotsT ms rs
  | _ :: ms, _ :: rs => slotsT ms rs
  | _, _ => []
def putT : List Nat → List D → Env → Option Env
  | [], [], e => some e
  | i :: is, d :: ds, e => (setH e i d).bind fun e' => putT is ds e'
  | _, _, _ => none
def dCall (ms : List Bool) (f : List D → Option (D × List D)) (fa : AD) : XD := fun e => (fa e).bind fun p => (argsT ms p.1 p.2).bind fun a => if (slotsT ms p.1).Nodup then
  (f a.1).bind fun z => (putT (slotsT ms p.1) z.2 a.2).map fun e' => (.dat z.1, e') else none
/-- a call that changes nothing and hands back no object: own objects may be handed in -/
def D.flat : D → Bool
  | .list _ => false
  | .tuple _ => false
  | .dict _ => false
  | _ => true
def dCallB (ms : List Bool) (f : List D → Option (D × List D)) (fa : AD) : XD := fun e => (fa e).bind fun p => (gets p.2 p.1).bind fun ds => (f ds).bind fun z => if z.1.flat = true ∧ ms.all (! ·) = true then some (.dat z.1, p.2) else none
section
variable {K : PySem.W.Frag} {G : Gd} {F H : Hp} {σ : St}
theorem argsT_at : ∀ {ms : List Bool} {rs : List R} {vs : List V} {F : Hp} {e e' : Env} {ds : List D}, Rep K G F e σ H → vs.length = rs.length → (∀ (i : Nat) (v : V) (r : R), vs[i]? = some v → rs[i]? = some r → (r.get e).isSome = true → RAt K F e σ v r) → argsT ms rs e = some (ds, e') →
    ∃ F', Rep K G F' e' σ H ∧ Same F F' ∧ ArgsAt K F' H ms vs ds ∧ (∀ i, (cellAt e' i).isSome = true → (cellAt e i).isSome = true) ∧ ∃ as, ioOf ms vs = as ∧ as.length = (slotsT ms rs).length ∧ ∀ (j i : Nat) (p : Addr), (slotsT ms rs)[j]? = some i → as[j]? = some p → σ[i]? = some (some (.ref p)) ∧ (cellAt e' i).isSome = true
  | [], [], [], F, e, e', ds, rep, _, _, h => by
    cases h
    exact ⟨F, rep, .refl _, .nil, fun _ h => h, [], rfl, rfl, fun j i p h => by simp [slotsT] at h⟩
  | false :: ms, r :: rs, v :: vs, F, e, e', ds, rep, hl, ha, h => by
    simp only [argsT, Option.bind_eq_some_iff, Option.map_eq_some_iff] at h
    obtain ⟨⟨d, e1⟩, h1, ⟨ds', e2⟩, h2, h3⟩ := h
    cases h3
    obtain ⟨F1, rep1, ss1, a1⟩ := rep.take (ha 0 v r rfl rfl (by rw [R.take_get h1]; rfl)) h1
    obtain ⟨F2, rep2, ss2, a2, cs, as, h5, h6, h7⟩ := argsT_at rep1 (by simpa using hl) (fun i v' r' hv hr hg => (ha (i + 1) v' r' (by simpa using hv) (by simpa using hr) (take_later (F := F) (σ := σ) (v := v) h1 hg)).later ss1 hg) h2
    refine ⟨F2, rep2, ss1.trans ss2, .dat (a1.mono ss2) a2, fun i hi => ?_, as, by simpa [ioOf] using h5, by simpa [slotsT] using h6, by simpa [slotsT] using h7⟩
    exact take_later (F := F) (σ := σ) (v := v) (r' := .slot i) h1 (cs i hi)
  | true :: ms, .slot i :: rs, v :: vs, F, e, e', ds, rep, hl, ha, h => by
    simp only [argsT, Option.bind_eq_some_iff, Option.map_eq_some_iff] at h
    obtain ⟨⟨ds', e2⟩, h2, d, hd, h3⟩ := h
    cases h3
    obtain ⟨F2, rep2, ss2, a2, cs, as, h5, h6, h7⟩ := argsT_at rep (by simpa using hl) (fun i v' r' hv hr hg => ha (i + 1) v' r' (by simpa using hv) (by simpa using hr) hg) h2
    have hsome : (cellAt e2 i).isSome = true := by rw [hd]; rfl
    have hv := ha 0 v (.slot i) rfl rfl (cs i hsome)
    obtain ⟨c, hc, hcd⟩ := cellAt_some hd
    obtain ⟨p, o, q1, q2, q3, q4, _⟩ := rep2.own i c d hc hcd
    have : v = .ref p := by have := hv.1; rw [q1] at this; cases this; rfl
    subst this
    refine ⟨F2, rep2, ss2, .io q2 q3 q4 a2, cs, p :: as, by simp [ioOf, h5], by simp [slotsT, h6], fun j i' p' hj hp => ?_⟩
    cases j with
    | zero => simp [slotsT] at hj hp; subst hj; subst hp; exact ⟨q1, hsome⟩
    | succ j => exact h7 j i' p' (by simpa [slotsT] using hj) (by simpa using hp)
  | [], [], _ :: _, _, _, _, _, _, hl, _, _ => by simp at hl
  | [], _ :: _, _, _, _, _, _, _, _, _, h => by simp [argsT] at h
  | false :: _, [], _, _, _, _, _, _, _, _, h => by simp [argsT] at h
  | true :: _, [], _, _, _, _, _, _, _, _, h => by simp [argsT] at h
  | true :: _, .dat _ :: _, _, _, _, _, _, _, _, _, h => by simp [argsT] at h
  | false :: _, _ :: _, [], _, _, _, _, _, hl, _, _ => by simp at hl
  | true :: _, .slot _ :: _, [], _, _, _, _, _, hl, _, _ => by simp at hl
/-- the objects of slots, changed one by one -/
theorem Rep.puts : ∀ {is : List Nat} {as : List Addr} {ds : List D} {e e' : Env} {Hm H' : Hp}, Rep K G F e σ Hm → as.length = is.length → as.Nodup → (∀ (j i : Nat) (p : Addr), is[j]? = some i → as[j]? = some p → σ[i]? = some (some (.ref p))) →
    OutsAt K F H' as ds → putT is ds e = some e' → (∀ b, b ∉ as → Hm b = H' b) → Rep K G F e' σ H'
  | [], [], [], e, e', Hm, H', rep, _, _, _, _, h, hh => by
    cases h
    have : Hm = H' := funext fun b => hh b (by simp)
    rw [← this]; exact rep
  | i :: is, p :: as, d :: ds, e, e', Hm, H', rep, hl, hn, hs, ho, h, hh => by
    simp only [putT, Option.bind_eq_some_iff] at h
    obtain ⟨e1, h1, h2⟩ := h
    obtain ⟨⟨o, o1, o2, o3⟩, o4⟩ := ho
    have hσ := hs 0 i p rfl rfl
    have rep1 := rep.write (o := o) hσ o2 h1
    rw [List.nodup_cons] at hn
    refine Rep.puts rep1 (by simpa using hl) hn.2 (fun j i' p' hj hp => hs (j + 1) i' p' (by simpa using hj) (by simpa using hp)) o4 h2 fun b hb => ?_
    by_cases e1 : b = p
    · subst e1; rw [upd_same, o1]
    · rw [upd_ne e1]; exact hh b (by simp [e1, hb])
  | [], _ :: _, _, _, _, _, _, _, hl, _, _, _, _, _ => by simp at hl
  | _ :: _, [], _, _, _, _, _, _, hl, _, _, _, _, _ => by simp at hl
  | [], [], _ :: _, _, _, _, _, _, _, _, _, _, h, _ => by simp [putT] at h
  | _ :: _, _ :: _, [], _, _, _, _, _, _, _, _, _, h, _ => by simp [putT] at h
end
section
variable {X : Cx} {K : PySem.W.Frag} {k j : Nat} {a : Expr} {es : List Expr} {fa : AD} {f : Addr} {fd : FuncData} {ps : List Str} {ms : List Bool} {Ff : List D → Option (D × List D)} {x : Str} {p pos : Pos}
theorem OutsAt.none {F H : Hp} : ∀ {as : List Addr} {ds : List D}, OutsAt K F H as ds → ∀ p ∈ as, F p = Option.none
  | [], [], _, p, hp => by cases hp
  | a :: as, d :: ds, h, p, hp => by
    rcases List.mem_cons.mp hp with rfl | hp
    · obtain ⟨⟨o, _, _, h3⟩, _⟩ := h; exact h3
    · exact OutsAt.none h.2 p hp
  | [], _ :: _, h, _, _ => h.elim
  | _ :: _, [], h, _, _ => h.elim
theorem sem_call {ta : TA} (sa : SemA K ta fa) : SemE K (tCall (spF K ms Ff) [] E0 ta) (dCall ms Ff fa) := by
  intro G F e σ H r e' Q rep hf q
  unfold dCall at hf
  simp only [Option.bind_eq_some_iff] at hf
  obtain ⟨⟨rs, e1⟩, h1, ⟨ds, e2⟩, h2, hf⟩ := hf
  split at hf
  · rename_i hnd
    simp only [Option.bind_eq_some_iff, Option.map_eq_some_iff] at hf
    obtain ⟨⟨z, outs⟩, h3, e3, h4, h5⟩ := hf
    cases h5
    refine sa G F e σ H rs e1 _ rep h1 fun vs F1 H1 rep1 ss1 hl a1 => ?_
    obtain ⟨F2, rep2, ss2, a2, _, as, h5, h6, h7⟩ := argsT_at rep1 hl a1 h2
    rw [List.append_nil]
    have hads : (ioOf ms vs).Nodup := by
      rw [h5]
      unfold List.Nodup at hnd ⊢
      rw [List.pairwise_iff_getElem] at hnd ⊢
      intro i' j' hi hj hij hpp
      have hi' : i' < (slotsT ms rs).length := by omega
      have hj' : j' < (slotsT ms rs).length := by omega
      obtain ⟨s1, c1⟩ := h7 i' _ _ (List.getElem?_eq_getElem hi') (List.getElem?_eq_getElem hi)
      obtain ⟨s2, c2⟩ := h7 j' _ _ (List.getElem?_eq_getElem hj') (List.getElem?_eq_getElem hj)
      rw [hpp] at s1
      obtain ⟨x1, hx1⟩ := Option.isSome_iff_exists.mp c1
      obtain ⟨x2, hx2⟩ := Option.isSome_iff_exists.mp c2
      obtain ⟨c1, hc1, hd1⟩ := cellAt_some hx1
      obtain ⟨c2, hc2, hd2⟩ := cellAt_some hx2
      exact hnd i' j' hi' hj' hij (rep2.sep _ _ c1 c2 x1 x2 _ hc1 hd1 hc2 hd2 s1 s2)
    refine ⟨F2, ds, z, outs, rep2.sub, a2, hads, h3, fun w F3 H3 keep ss3 sub3 nw3 aw outs3 => ?_⟩
    rw [h5] at keep outs3 hads
    let Hm : Hp := fun b => if b ∈ as then H1 b else H3 b
    have ad : Adds F2 H1 F3 Hm := ⟨ss3, fun b x hb => by
      show (if b ∈ as then H1 b else H3 b) = some x
      by_cases hm : b ∈ as
      · rw [if_pos hm]; exact hb
      · rw [if_neg hm]; exact keep b x hb hm, fun b x hb => by
      show (if b ∈ as then H1 b else H3 b) = some x
      by_cases hm : b ∈ as
      · rw [outs3.none b hm] at hb; cases hb
      · rw [if_neg hm]; exact sub3 b x hb, nw3⟩
    have rep3 := rep2.adds ad
    have rep4 := Rep.puts (H' := H3) rep3 h6 hads (fun j i p hj hp => (h7 j i p hj hp).1) outs3 h4 (fun b hb => by
      show (if b ∈ as then H1 b else H3 b) = H3 b
      rw [if_neg hb])
    exact q w F3 H3 rep4 (ss1.trans (ss2.trans ss3)) aw
  · cases hf
theorem at_flat {F F' : Hp} {v : V} {d : D} (h : At K F v d) (hf : d.flat = true) : At K F' v d := by
  cases h with
  | non => exact .non
  | bl b => exact .bl b
  | int b => exact .int b
  | str b => exact .str b
  | lst _ _ => cases hf
  | tup _ _ => cases hf
  | dk _ _ => cases hf
  | dt _ _ => cases hf
  | scr _ _ => cases hf
theorem TopL.args {F H : Hp} : ∀ {ms : List Bool} {vs : List V} {ds : List D}, ms.all (! ·) = true → ds.length = ms.length → Same F H → TopL K F H vs ds → ArgsAt K H H ms vs ds ∧ ioOf ms vs = []
  | [], [], [], _, _, _, _ => ⟨.nil, rfl⟩
  | false :: ms, v :: vs, d :: ds, h, hl, s, t => by
    cases t with
    | cons t1 t2 =>
      obtain ⟨r1, r2⟩ := TopL.args (ms := ms) (by simpa using h) (by simpa using hl) s t2
      exact ⟨.dat (t1.whole s) r1, by simpa [ioOf] using r2⟩
  | true :: ms, _, _, h, _, _, _ => by simp at h
  | [], _, _ :: _, _, hl, _, _ => by simp at hl
  | _ :: _, _, [], _, hl, _, _ => by simp at hl
  | [], _ :: _, [], _, _, _, t => by cases t
  | false :: _, [], _ :: _, _, _, _, t => by cases t
theorem sem_callB {ta : TA} (hlen : ∀ ds z, Ff ds = some z → ds.length = ms.length) (sa : SemA K ta fa) : SemE K (tCall (spF K ms Ff) [] E0 ta) (dCallB ms Ff fa) := by
  intro G F e σ H r e' Q rep hf q
  unfold dCallB at hf
  simp only [Option.bind_eq_some_iff] at hf
  obtain ⟨⟨rs, e1⟩, h1, ds, h2, ⟨z, outs⟩, h3, hf⟩ := hf
  split at hf
  · rename_i hc
    cases hf
    refine sa G F e σ H rs e1 _ rep h1 fun vs F1 H1 rep1 ss1 hl a1 => ?_
    have tp := tops rep1 hl a1 h2
    obtain ⟨aa, hio⟩ := TopL.args hc.2 (hlen ds _ h3) rep1.sub tp
    rw [List.append_nil]
    refine ⟨H1, ds, z, outs, .refl _, aa, by rw [hio]; exact List.nodup_nil, h3, fun w F3 H3 keep ss3 sub3 nw3 aw outs3 => ?_⟩
    have ad : Adds F1 H1 F1 H3 := ⟨.refl _, fun b x hb => keep b x hb (by rw [hio]; simp), fun b x hb => keep b x (rep1.sub b x hb) (by rw [hio]; simp), fun b x hb => .inl hb⟩
    exact q w F1 H3 (rep1.adds ad) ss1 (at_flat aw hc.1)
  · cases hf
theorem ped_call (g : Good X K k) (hF : FnOk X.prog X.w X.K X.mg X.base CX0 j f fd ps (spF K ms Ff)) (hk : j ≤ k) (hg : Gl X x) (hm : X.mg x = some (.ref f)) (hkp : PySem.W.keepIn X.K (.ref f) = true) (hb : Binds X.K fd ps [])
    (ha : PAd X K (a :: es) fa) (hdb : (x == ("__debug__" : Str)) = false := by decide) (he : starEach (a :: es) X.env = (false, eval a X.env) :: starEach es X.env := by rfl) (hpl : (backTo pos (starEach es X.env)).any (·.1) = false := by rfl) :
    PEd X K (.Call (.Name x p) (a :: es) [] pos) (dCall ms Ff fa) := by
  obtain ⟨t, ha, sa⟩ := ha
  exact ⟨_, pe_call hF (g.room.mono hk) hg hm hkp hb .nil pass0 ha hdb he hpl, sem_call sa⟩
theorem ped_callBr (g : Good X K k) (hF : FnOk X.prog X.w X.K X.mg X.base CX0 j f fd ps (spF K ms Ff)) (hk : j ≤ k) (hlen : ∀ ds z, Ff ds = some z → ds.length = ms.length) (hg : Gl X x) (hm : X.mg x = some (.ref f)) (hkp : PySem.W.keepIn X.K (.ref f) = true) (hb : Binds X.K fd ps [])
    (ha : PAd X K (a :: es) fa) (hdb : (x == ("__debug__" : Str)) = false := by decide) (he : starEach (a :: es) X.env = (false, eval a X.env) :: starEach es X.env := by rfl) (hpl : (backTo pos (starEach es X.env)).any (·.1) = false := by rfl) :
    PEd X K (.Call (.Name x p) (a :: es) [] pos) (dCallB ms Ff fa) := by
  obtain ⟨t, ha, sa⟩ := ha
  exact ⟨_, pe_call hF (g.room.mono hk) hg hm hkp hb .nil pass0 ha hdb he hpl, sem_callB hlen sa⟩
theorem ped_call0 (g : Good X K k) (hF : FnOk X.prog X.w X.K X.mg X.base CX0 j f fd ps (spF K [] Ff)) (hk : j ≤ k) (hg : Gl X x) (hm : X.mg x = some (.ref f)) (hkp : PySem.W.keepIn X.K (.ref f) = true) (hb : Binds X.K fd ps [])
    (hdb : (x == ("__debug__" : Str)) = false := by decide) : PEd X K (.Call (.Name x p) [] [] pos) (dCall [] Ff dA0) := by
  refine ⟨_, pe_call0 hF (g.room.mono hk) hg hm hkp hb .nil pass0 hdb, sem_call ?_⟩
  intro G F e σ H rs e' Q rep hf q
  cases hf
  exact q [] F H rep (.refl _) rfl (fun i v r h => by simp at h)
theorem dFn_len {n : Nat} {body : SD} : ∀ ds z, dFn n ms body ds = some z → ds.length = ms.length := by
  intro ds z h
  unfold dFn at h
  simp only [Option.bind_eq_some_iff] at h
  obtain ⟨e, he, _⟩ := h
  have : ∀ {ms : List Bool} {ds : List D} {e : Env}, initE ms ds = some e → ds.length = ms.length := by
    intro ms
    induction ms with
    | nil => intro ds e h; cases ds with
      | nil => rfl
      | cons _ _ => cases h
    | cons m ms ih => intro ds e h; cases ds with
      | nil => cases h
      | cons d ds =>
        simp only [initE, Option.map_eq_some_iff] at h
        obtain ⟨e', h1, _⟩ := h
        simp [ih h1]
  exact this he
end
end HD

/-! operators, comparisons, subscripts, built-ins by data -/
namespace HD
open PySem PySem.Spec PyProof.Rows L2 RT

theorem Good.hu {X : Cx} {K : PySem.W.Frag} {k : Nat} (g : Good X K k) : X.A.units + 64 < cLine := g.room.units
/-! ### arithmetic -/
def D.add : D → D → Option D
  | .int a, .int b => some (.int (a + b))
  | .str a, .str b => if a.length + b.length ≤ 16777216 then some (.str (a ++ b)) else none
  | .tuple a, .tuple b => if a.length + b.length ≤ 16777216 then some (.tuple (a ++ b)) else none
  | _, _ => none
def D.cat : D → D → Option D
  | .list a, .list b => if a.length + b.length ≤ 16777216 then some (.list (a ++ b)) else none
  | _, _ => none
def D.sub : D → D → Option D
  | .int a, .int b => some (.int (a - b))
  | _, _ => none
def big : Int := 18446744073709551616
def D.mul : D → D → Option D
  | .int a, .int b => if (a.natAbs < 18446744073709551616 ∨ b.natAbs < 18446744073709551616) ∨ a.natAbs.log2 + b.natAbs.log2 < 1000000 then some (.int (a * b)) else none
  | _, _ => none
def D.rep : D → D → Option D
  | .list a, .int k => if k.natAbs < 2 ^ 63 ∧ a.length * k.toNat ≤ 16777216 then some (.list (List.replicate k.toNat a).flatten) else none
  | _, _ => none
def D.fdiv : D → D → Option D
  | .int a, .int b => if 0 < b ∧ (b.natAbs < 1073741824 ∨ b.natAbs.log2 < 9000) then some (.int (a / b)) else none
  | _, _ => none
def D.mod : D → D → Option D
  | .int a, .int b => if 0 < b then some (.int (a % b)) else none
  | _, _ => none
def D.pow : D → D → Option D
  | .int a, .int b => if 0 ≤ b ∧ b.natAbs ≤ 1000000 ∧ a.natAbs < 18446744073709551616 then some (.int (a ^ b.toNat)) else none
  | _, _ => none
def D.xor : D → D → Option D
  | .int a, .int b => some (.int (Builtin.bitXor a b))
  | _, _ => none
def D.neg : D → Option D
  | .int a => some (.int (-a))
  | _ => none
section
variable {X : Cx} {K : PySem.W.Frag} {k : Nat}
theorem app_nil_of {α : Type} {xs : List α} (h : xs = []) : xs = [] := h
theorem d_sub : Op2 K (rI0 fun i j => .int (i - j)) D.sub := by
  intro F H v u x y z Q s a b hz q
  unfold D.sub at hz
  split at hz
  · cases hz; exact ⟨_, _, a.int, b.int, q _ F H (.refl s) (.int _)⟩
  · cases hz
def rAddAny (K : PySem.W.Frag) : R2 := fun x y H Q => rI0 (fun i j => .int (i + j)) x y H Q ∨ (∃ i j, x = .str i ∧ y = .str j ∧ i.length + j.length ≤ sizeLine ∧ Q (.str (i ++ j)) H) ∨ rCatA K x y H Q
theorem op_addAny (g : Good X K k) : OpR X (binaryOp .Add) (rAddAny K) := by
  have h : OpR X (binaryOp .Add) (rCatA K) := g.K ▸ op_catA
  exact op_add.or (op_add_str.or h)
theorem d_add : Op2 K (rAddAny K) D.add := by
  intro F H v u x y z Q s a b hz q
  unfold D.add at hz
  split at hz
  · cases hz; exact .inl ⟨_, _, a.int, b.int, q _ F H (.refl s) (.int _)⟩
  · split at hz
    · rename_i hl; cases hz; exact .inr (.inl ⟨_, _, a.str, b.str, lim_le hl, q _ F H (.refl s) (.str _)⟩)
    · cases hz
  · split at hz
    · rename_i hl
      cases hz
      obtain ⟨p, xs, rfl, h1, h2⟩ := a.tuple s
      obtain ⟨p', ys, rfl, h3, h4⟩ := b.tuple s
      refine .inr (.inr ⟨p, p', xs, ys, rfl, rfl, h1, h3, by rw [h2.len, h4.len]; exact lim_le hl, fun e => ?_, fun _ e => ?_, fun _ _ r hr => ?_⟩)
      · subst e
        cases h2
        rw [List.nil_append] at q
        rcases b with b | ⟨hb, hb2, hb3⟩
        · exact q _ F H (.refl s) b
        · cases hb3
      · subst e
        cases h4
        rw [List.append_nil] at q
        rcases a with a | ⟨ha, ha2, ha3⟩
        · exact q _ F H (.refl s) a
        · cases ha3
      · have ad : Adds F H (upd F r (.tup (xs ++ ys))) _ := .new s hr
        exact q _ _ _ ad (.tup upd_same ((h2.mono ad.ff).app (h4.mono ad.ff)))
    · cases hz
  · cases hz
theorem d_cat : Op2N K rCat D.cat := by
  intro F H v u x y z Q s a b hz q
  unfold D.cat at hz
  split at hz
  · split at hz
    · rename_i hl
      cases hz
      obtain ⟨p, xs, rfl, h1, h2⟩ := a.list s
      obtain ⟨p', ys, rfl, h3, h4⟩ := b.list s
      exact ⟨p, p', xs, ys, rfl, rfl, h1, h3, by rw [h2.len, h4.len]; exact lim_le hl, fun r hr => q r _ hr (.lst (h2.app h4))⟩
    · cases hz
  · cases hz
theorem d_mul : Op2 K (fun x y H Q => rI CMul (fun i j => .int (i * j)) x y H Q ∨ rI CMulW (fun i j => .int (i * j)) x y H Q) D.mul := by
  intro F H v u x y z Q s a b hz q
  unfold D.mul at hz
  split at hz
  · split at hz
    · rename_i hc; cases hz
      rcases hc with hc | hc
      · exact .inl ⟨_, _, a.int, b.int, (show (-18446744073709551616 < _ ∧ _ < (18446744073709551616 : Int)) ∨ (-18446744073709551616 < _ ∧ _ < (18446744073709551616 : Int)) by omega), q _ F H (.refl s) (.int _)⟩
      · exact .inr ⟨_, _, a.int, b.int, hc, q _ F H (.refl s) (.int _)⟩
    · cases hz
  · cases hz
def D.imul : D → D → Option D
  | .int a, .int b => if a.natAbs < 18446744073709551616 ∨ b.natAbs < 18446744073709551616 then some (.int (a * b)) else none
  | _, _ => none
theorem d_imul : Op2 K (rI CMul fun i j => .int (i * j)) D.imul := by
  intro F H v u x y z Q s a b hz q
  unfold D.imul at hz
  split at hz
  · split at hz
    · rename_i hc; cases hz; exact ⟨_, _, a.int, b.int, (show (-18446744073709551616 < _ ∧ _ < (18446744073709551616 : Int)) ∨ (-18446744073709551616 < _ ∧ _ < (18446744073709551616 : Int)) by omega), q _ F H (.refl s) (.int _)⟩
    · cases hz
  · cases hz
theorem AtL.rep {F : Hp} {xs : List V} {ds : List D} (h : AtL K F xs ds) : ∀ n : Nat, AtL K F (List.replicate n xs).flatten (List.replicate n ds).flatten
  | 0 => .nil
  | n + 1 => by
    rw [List.replicate_succ, List.replicate_succ, List.flatten_cons, List.flatten_cons]
    exact h.app (AtL.rep h n)
theorem d_rep : Op2N K rRep D.rep := by
  intro F H v u x y z Q s a b hz q
  unfold D.rep at hz
  split at hz
  · split at hz
    · rename_i hc
      cases hz
      obtain ⟨p, xs, rfl, h1, h2⟩ := a.list s
      exact ⟨p, _, xs, rfl, b.int, h1, by omega, by omega, by rw [h2.len]; exact lim_le hc.2, fun r hr => q r _ hr (.lst (h2.rep _))⟩
    · cases hz
  · cases hz
theorem log2_small {b : Int} (h : b.natAbs < 1073741824) : b.natAbs.log2 < 9000 := by
  by_cases z : b.natAbs = 0
  · rw [z]; decide
  · have : b.natAbs.log2 < 30 := (Nat.log2_lt z).mpr h
    omega
theorem d_fdiv : Op2 K (rI CDivW fun i j => .int (i / j)) D.fdiv := by
  intro F H v u x y z Q s a b hz q
  unfold D.fdiv at hz
  split at hz
  · split at hz
    · rename_i hc; cases hz; exact ⟨_, _, a.int, b.int, ⟨hc.1, hc.2.elim log2_small id⟩, q _ F H (.refl s) (.int _)⟩
    · cases hz
  · cases hz
theorem d_mod : Op2 K (rI (fun _ j => 0 < j) fun i j => .int (i % j)) D.mod := by
  intro F H v u x y z Q s a b hz q
  unfold D.mod at hz
  split at hz
  · split at hz
    · rename_i hc; cases hz; exact ⟨_, _, a.int, b.int, hc, q _ F H (.refl s) (.int _)⟩
    · cases hz
  · cases hz
theorem d_pow : Op2 K (rI CPow fun i j => .int (i ^ j.toNat)) D.pow := by
  intro F H v u x y z Q s a b hz q
  unfold D.pow at hz
  split at hz
  · split at hz
    · rename_i hc; cases hz; exact ⟨_, _, a.int, b.int, ⟨hc.1, by omega, hc.2.2⟩, q _ F H (.refl s) (.int _)⟩
    · cases hz
  · cases hz
theorem d_xor : Op2 K (rI0 fun i j => .int (Builtin.bitXor i j)) D.xor := by
  intro F H v u x y z Q s a b hz q
  unfold D.xor at hz
  split at hz
  · cases hz; exact ⟨_, _, a.int, b.int, q _ F H (.refl s) (.int _)⟩
  · cases hz
theorem d_neg : Op1 K (rU fun i => .int (-i)) D.neg := by
  intro F H v x z Q s a hz q
  unfold D.neg at hz
  split at hz
  · cases hz; exact ⟨_, a.int, q _ F H (.refl s) (.int _)⟩
  · cases hz
theorem iop_addAny : OpR X (inplaceOp .Add) (fun x y H Q => rI0 (fun i j => .int (i + j)) x y H Q ∨ (∃ i j, x = .str i ∧ y = .str j ∧ i.length + j.length ≤ sizeLine ∧ Q (.str (i ++ j)) H)) := iop_add.or iop_add_str
def D.iadd : D → D → Option D
  | .int a, .int b => some (.int (a + b))
  | .str a, .str b => if a.length + b.length ≤ 16777216 then some (.str (a ++ b)) else none
  | _, _ => none
theorem d_iadd : Op2 K (fun x y H Q => rI0 (fun i j => .int (i + j)) x y H Q ∨ (∃ i j, x = .str i ∧ y = .str j ∧ i.length + j.length ≤ sizeLine ∧ Q (.str (i ++ j)) H)) D.iadd := by
  intro F H v u x y z Q s a b hz q
  unfold D.iadd at hz
  split at hz
  · cases hz; exact .inl ⟨_, _, a.int, b.int, q _ F H (.refl s) (.int _)⟩
  · split at hz
    · rename_i hl; cases hz; exact .inr ⟨_, _, a.str, b.str, lim_le hl, q _ F H (.refl s) (.str _)⟩
    · cases hz
  · cases hz

/-! ### == -/
def D.eqG (d e : D) : Option D := if SeqAt.shaped d = true ∧ SeqAt.shaped e = true then some (.bool (PyData.eqv d e)) else none
def D.neG (d e : D) : Option D := if SeqAt.shaped d = true ∧ SeqAt.shaped e = true then some (.bool (!PyData.eqv d e)) else none
def D.eqS : D → D → Option D
  | .int a, .int b => some (.bool (decide (a = b)))
  | .str a, .str b => some (.bool (decide (a = b)))
  | _, _ => none
def D.neS : D → D → Option D
  | .int a, .int b => some (.bool (!decide (a = b)))
  | .str a, .str b => some (.bool (!decide (a = b)))
  | _, _ => none
def D.eq (d e : D) : Option D := (D.eqS d e).or (D.eqG d e)
def D.ne (d e : D) : Option D := (D.neS d e).or (D.neG d e)
theorem lay_of_shaped {d : D} (h : SeqAt.shaped d = true) : d.canLay0 = true := SeqAt.canLay_of_shaped h
def rEqA (K : PySem.W.Frag) : R2 := fun x y H Q => rEq x y H Q ∨ rEqD K x y H Q
def rNeA (K : PySem.W.Frag) : R2 := fun x y H Q => rNe x y H Q ∨ rNeD K x y H Q
theorem op_eqK (g : Good X K k) : OpR X (compareOp .Eq) (rEqA K) := by
  have h : OpR X (compareOp .Eq) (rEqD K) := g.K ▸ op_eqD g.hu
  exact op_eq.or h
theorem op_neK (g : Good X K k) : OpR X (compareOp .NotEq) (rNeA K) := by
  have h : OpR X (compareOp .NotEq) (rNeD K) := g.K ▸ op_neD g.hu
  exact op_ne.or h
theorem d_eqG : Op2 K (rEqD K) D.eqG := by
  intro F H v u x y z Q s a b hz q
  unfold D.eqG at hz
  split at hz
  · rename_i hc
    cases hz
    exact ⟨x, y, (a.whole s).dp (lay_of_shaped hc.1), (b.whole s).dp (lay_of_shaped hc.2), hc.1, hc.2, q _ F H (.refl s) (.bl _)⟩
  · cases hz
theorem d_neG : Op2 K (rNeD K) D.neG := by
  intro F H v u x y z Q s a b hz q
  unfold D.neG at hz
  split at hz
  · rename_i hc
    cases hz
    exact ⟨x, y, (a.whole s).dp (lay_of_shaped hc.1), (b.whole s).dp (lay_of_shaped hc.2), hc.1, hc.2, q _ F H (.refl s) (.bl _)⟩
  · cases hz
theorem decV {a b : Str} : decide (V.str a = V.str b) = decide (a = b) := by
  by_cases h : a = b
  · subst h; simp
  · have : ¬ V.str a = V.str b := fun z => h (V.str.inj z)
    simp [h]
theorem decVI {a b : Int} : decide (V.int a = V.int b) = decide (a = b) := by
  by_cases h : a = b
  · subst h; simp
  · have : ¬ V.int a = V.int b := fun z => h (V.int.inj z)
    simp [h]
theorem d_eqS : Op2 K rEq D.eqS := by
  intro F H v u x y z Q s a b hz q
  unfold D.eqS at hz
  split at hz
  · cases hz
    rw [a.int, b.int]
    exact ⟨rfl, by rw [decVI]; exact q _ F H (.refl s) (.bl _)⟩
  · cases hz
    rw [a.str, b.str]
    exact ⟨rfl, by rw [decV]; exact q _ F H (.refl s) (.bl _)⟩
  · cases hz
theorem d_neS : Op2 K rNe D.neS := by
  intro F H v u x y z Q s a b hz q
  unfold D.neS at hz
  split at hz
  · cases hz
    rw [a.int, b.int]
    exact ⟨rfl, by rw [decVI]; exact q _ F H (.refl s) (.bl _)⟩
  · cases hz
    rw [a.str, b.str]
    exact ⟨rfl, by rw [decV]; exact q _ F H (.refl s) (.bl _)⟩
  · cases hz
theorem d_eq : Op2 K (rEqA K) D.eq := d_eqS.or d_eqG
theorem d_ne : Op2 K (rNeA K) D.ne := d_neS.or d_neG
/-! ### order of ints and texts -/
def D.lt : D → D → Option D
  | .int a, .int b => some (.bool (decide (a < b)))
  | .str a, .str b => some (.bool (decide (a.cps.toList < b.cps.toList)))
  | _, _ => none
def D.le : D → D → Option D
  | .int a, .int b => some (.bool (decide (a ≤ b)))
  | _, _ => none
def D.gt : D → D → Option D
  | .int a, .int b => some (.bool (decide (b < a)))
  | _, _ => none
def D.ge : D → D → Option D
  | .int a, .int b => some (.bool (decide (b ≤ a)))
  | _, _ => none
def rLtAny : R2 := fun x y H Q => rI0 (fun i j => .bl (decide (i < j))) x y H Q ∨ (∃ i j, x = .str i ∧ y = .str j ∧ Q (.bl (decide (i.cps.toList < j.cps.toList))) H)
theorem op_ltAny : OpR X (compareOp .Lt) rLtAny := op_lt.or op_lt_str
theorem d_lt : Op2 K rLtAny D.lt := by
  intro F H v u x y z Q s a b hz q
  unfold D.lt at hz
  split at hz
  · cases hz; exact .inl ⟨_, _, a.int, b.int, q _ F H (.refl s) (.bl _)⟩
  · cases hz; exact .inr ⟨_, _, a.str, b.str, q _ F H (.refl s) (.bl _)⟩
  · cases hz
theorem d_le : Op2 K (rI0 fun i j => .bl (decide (i ≤ j))) D.le := by
  intro F H v u x y z Q s a b hz q
  unfold D.le at hz
  split at hz
  · cases hz; exact ⟨_, _, a.int, b.int, q _ F H (.refl s) (.bl _)⟩
  · cases hz
theorem d_gt : Op2 K (rI0 fun i j => .bl (decide (j < i))) D.gt := by
  intro F H v u x y z Q s a b hz q
  unfold D.gt at hz
  split at hz
  · cases hz; exact ⟨_, _, a.int, b.int, q _ F H (.refl s) (.bl _)⟩
  · cases hz
theorem d_ge : Op2 K (rI0 fun i j => .bl (decide (j ≤ i))) D.ge := by
  intro F H v u x y z Q s a b hz q
  unfold D.ge at hz
  split at hz
  · cases hz; exact ⟨_, _, a.int, b.int, q _ F H (.refl s) (.bl _)⟩
  · cases hz
/-! ### is None -/
def D.isNone : D → Bool
  | .none => true
  | _ => false
def D.isN : D → D → Option D
  | d, .none => some (.bool (D.isNone d))
  | _, _ => none
def D.notN : D → D → Option D
  | d, .none => some (.bool (!D.isNone d))
  | _, _ => none
theorem Top.non_iff {F H : Hp} {v : V} {d : D} (s : Same F H) (h : Top K F H v d) : decide (v = V.non) = D.isNone d := by
  cases d with
  | none => rw [h.none]; rfl
  | bool b => rw [h.bool]; rfl
  | int b => rw [h.int]; rfl
  | str b => rw [h.str]; rfl
  | list ds => obtain ⟨a, xs, rfl, _⟩ := h.list s; rfl
  | tuple ds => obtain ⟨a, xs, rfl, _⟩ := h.tuple s; rfl
  | dict ds => obtain ⟨a, rfl, _⟩ := h.dict s; rfl
theorem d_isN : Op2 K (fun x y H Q => y = .non ∧ Q (.bl (decide (x = .non))) H) D.isN := by
  intro F H v u x y z Q s a b hz q
  unfold D.isN at hz
  split at hz
  · cases hz; exact ⟨b.none, by rw [a.non_iff s]; exact q _ F H (.refl s) (.bl _)⟩
  · cases hz
theorem d_notN : Op2 K (fun x y H Q => y = .non ∧ Q (.bl (!decide (x = .non))) H) D.notN := by
  intro F H v u x y z Q s a b hz q
  unfold D.notN at hz
  split at hz
  · rename_i d _
    cases hz
    refine ⟨b.none, ?_⟩
    rw [a.non_iff s]
    exact q _ F H (.refl s) (.bl _)
  · cases hz
/-! ### subscripts -/
def D.ix : D → D → Option D
  | .list ds, .int i => atI ds i
  | .tuple ds, .int i => atI ds i
  | .dict [(.none, .list ds)], .int i => atI ds i
  | .str x, .int i => if x.length ≤ 16777216 then (atI x.cps.toList i).map fun c => .str ⟨#[c]⟩ else none
  | _, _ => none
theorem AtL.atI {F : Hp} {xs : List V} {ds : List D} {i : Int} {d : D} (h : AtL K F xs ds) (hi : L2.atI ds i = some d) : ∃ x, L2.atI xs i = some x ∧ At K F x d := by
  unfold L2.atI at hi ⊢
  rw [h.len]
  simp only [Option.bind_eq_some_iff] at hi ⊢
  obtain ⟨j, h1, h2⟩ := hi
  obtain ⟨x, h3, h4⟩ := h.get h2
  exact ⟨x, ⟨j, h1, h3⟩, h4⟩
theorem ix_any (g : Good X K k) : IxR X (rIx K) := g.K ▸ ix_seq
theorem d_ix : Op2 K (rIx K) D.ix := by
  intro F H v u x y z Q s a b hz q
  unfold D.ix at hz
  split at hz
  · obtain ⟨p, xs, rfl, h1, h2⟩ := a.list s
    obtain ⟨w, h3, h4⟩ := h2.atI hz
    exact .inl ⟨p, xs, _, w, rfl, b.int, .of h1, h3, q _ F H (.refl s) h4⟩
  · obtain ⟨p, xs, rfl, h1, h2⟩ := a.tuple s
    obtain ⟨w, h3, h4⟩ := h2.atI hz
    exact .inr (.inl ⟨p, xs, _, w, rfl, b.int, h1, h3, q _ F H (.refl s) h4⟩)
  · obtain ⟨p, xs, rfl, h1, h2⟩ := a.scr s
    obtain ⟨w, h3, h4⟩ := h2.atI hz
    exact .inl ⟨p, xs, _, w, rfl, b.int, h1, h3, q _ F H (.refl s) h4⟩
  · split at hz
    · rename_i hl
      simp only [Option.map_eq_some_iff] at hz
      obtain ⟨c, h1, rfl⟩ := hz
      exact .inr (.inr ⟨_, _, c, a.str, b.int, lim_le hl, h1, q _ F H (.refl s) (.str _)⟩)
    · cases hz
  · cases hz
theorem ped_ix {a b : Expr} {fa fb : XD} {pos : Pos} (g : Good X K k) (ha : PEd X K a fa) (hb : PEd X K b fb) (hs : PlainIx b := by exact fun _ _ => rfl) : PEd X K (.Subscript a b pos) (dBin D.ix fa fb) := by
  obtain ⟨ta, ha, sa⟩ := ha
  obtain ⟨tb, hb, sb⟩ := hb
  exact ⟨_, pe_ix (ix_any g) ha hb hs, sem_bin d_ix sa sb⟩
/-! slices -/
def POd (X : Cx) (K : PySem.W.Frag) (e : Option Expr) (f : Env → Option (Option Int × Env)) : Prop := ∃ t, PO X e t ∧ ∀ (G : Gd) (F : Hp) (e : Env) (σ : St) (H : Hp) (o : Option Int) (e' : Env) (Q : Option Int → Hp → Prop), Rep K G F e σ H → f e = some (o, e') →
  (∀ F' H', Rep K G F' e' σ H' → Same F F' → Q o H') → t σ H Q
def dP0 : Env → Option (Option Int × Env) := fun e => some (none, e)
def dP1 (a : XD) : Env → Option (Option Int × Env) := fun e => (a e).bind fun p => match p.1 with
  | .dat (.int i) => some (some i, p.2)
  | _ => none
theorem pod_none : POd X K none dP0 := ⟨_, po_none, fun G F e σ H o e' Q rep hf q => by cases hf; exact q F H rep (.refl _)⟩
theorem pod_some {a : Expr} {fa : XD} (ha : PEd X K a fa) : POd X K (some a) (dP1 fa) := by
  obtain ⟨ta, ha, sa⟩ := ha
  refine ⟨_, po_some ha, fun G F e σ H o e' Q rep hf q => ?_⟩
  unfold dP1 at hf
  simp only [Option.bind_eq_some_iff] at hf
  obtain ⟨⟨r, e1⟩, h1, h2⟩ := hf
  cases r with
  | slot i => cases h2
  | dat d => cases d with
    | int i =>
      cases h2
      exact sa G F e σ H _ e1 _ rep h1 fun v F1 H1 rep1 s1 a1 => ⟨i, at_int a1, q F1 H1 rep1 s1⟩
    | _ => cases h2
def cutD {α : Type} (xs : List α) (lo hi : Option Int) : List α := (xs.drop (HT.sIx xs.length 0 lo)).take (HT.sIx xs.length xs.length hi - HT.sIx xs.length 0 lo)
def dSl (g : D → Option Int → Option Int → Option D) (a : XD) (l h : Env → Option (Option Int × Env)) : XD := fun e => (a e).bind fun p => (l p.2).bind fun q => (h q.2).bind fun r => (p.1.get r.2).bind fun x => (g x q.1 r.1).map fun z => (.dat z, r.2)
def dSlN (g : D → Option Int → Option Int → Option D) (a : XD) (l h : Env → Option (Option Int × Env)) : ND := fun e => (a e).bind fun p => (l p.2).bind fun q => (h q.2).bind fun r => (p.1.get r.2).bind fun x => (g x q.1 r.1).map fun z => (z, r.2)
def D.sliceL : D → Option Int → Option Int → Option D
  | .list ds, lo, hi => some (.list (cutD ds lo hi))
  | _, _, _ => none
def D.sliceT : D → Option Int → Option Int → Option D
  | .tuple ds, lo, hi => some (.tuple (cutD ds lo hi))
  | _, _, _ => none
theorem AtL.cut {F : Hp} {xs : List V} {ds : List D} (h : AtL K F xs ds) (lo hi : Option Int) : AtL K F (cutV xs lo hi) (cutD ds lo hi) := by
  unfold cutV cutD
  rw [h.len]
  exact (h.drop _).take _
variable {a lo' hi' : Expr} {lo hi : Option Expr} {fa : XD} {fl fh : Env → Option (Option Int × Env)} {pos p2 : Pos}
theorem pnd_sliceL (g : Good X K k) (ha : PEd X K a fa) (hl : POd X K lo fl) (hh : POd X K hi fh) : PNd X K (.Subscript a (.Slice lo hi none p2) pos) (dSlN D.sliceL fa fl fh) := by
  obtain ⟨ta, ha, sa⟩ := ha
  obtain ⟨tl, hl, sl⟩ := hl
  obtain ⟨th, hh, sh⟩ := hh
  have hr : SlR X (rSlL K) := g.K ▸ sl_list
  refine ⟨_, pe_slice hr ha hl hh, fun G F e σ H d e' Q rep hf q => ?_⟩
  unfold dSlN at hf
  simp only [Option.bind_eq_some_iff, Option.map_eq_some_iff] at hf
  obtain ⟨⟨ra, e1⟩, h1, ⟨ol, e2⟩, h2, ⟨oh, e3⟩, h3, x, h4, z, h5, h6⟩ := hf
  cases h6
  refine sa G F e σ H ra e1 _ rep h1 fun v F1 H1 rep1 s1 a1 => sl G F1 e1 σ H1 ol e2 _ rep1 h2 fun F2 H2 rep2 s2 => sh G F2 e2 σ H2 oh e3 _ rep2 h3 fun F3 H3 rep3 s3 => ?_
  have tp := Rep.later a1 rep3 (s2.trans s3) h4
  cases x with
  | list ds =>
    cases h5
    obtain ⟨p, xs, rfl, b1, b2⟩ := tp.list rep3.sub
    refine ⟨p, xs, rfl, .of b1, fun r hr => ?_⟩
    obtain ⟨r1, f1⟩ := rep3.new hr (Own.lst (b2.cut ol oh))
    exact q r F3 _ r1 (s1.trans (s2.trans s3)) f1
  | _ => cases h5
theorem ped_sliceT (g : Good X K k) (ha : PEd X K a fa) (hl : POd X K lo fl) (hh : POd X K hi fh) : PEd X K (.Subscript a (.Slice lo hi none p2) pos) (dSl D.sliceT fa fl fh) := by
  obtain ⟨ta, ha, sa⟩ := ha
  obtain ⟨tl, hl, sl⟩ := hl
  obtain ⟨th, hh, sh⟩ := hh
  have hr : SlR X (rSlA K) := g.K ▸ sl_tupA
  refine ⟨_, pe_slice hr ha hl hh, fun G F e σ H d e' Q rep hf q => ?_⟩
  unfold dSl at hf
  simp only [Option.bind_eq_some_iff, Option.map_eq_some_iff] at hf
  obtain ⟨⟨ra, e1⟩, h1, ⟨ol, e2⟩, h2, ⟨oh, e3⟩, h3, x, h4, z, h5, h6⟩ := hf
  cases h6
  refine sa G F e σ H ra e1 _ rep h1 fun v F1 H1 rep1 s1 a1 => sl G F1 e1 σ H1 ol e2 _ rep1 h2 fun F2 H2 rep2 s2 => sh G F2 e2 σ H2 oh e3 _ rep2 h3 fun F3 H3 rep3 s3 => ?_
  have tp := Rep.later a1 rep3 (s2.trans s3) h4
  cases x with
  | tuple ds =>
    cases h5
    obtain ⟨p, xs, rfl, b1, b2⟩ := tp.tuple rep3.sub
    refine ⟨p, xs, rfl, b1, fun hw => ?_, fun _ r hr => ?_⟩
    · have : cutD ds ol oh = ds := by
        unfold cutD
        rw [b2.len] at hw
        rw [hw.1, hw.2]
        simp
      rw [this] at q
      rcases tp with tp | ⟨_, _, tp⟩
      · exact q _ F3 H3 rep3 (s1.trans (s2.trans s3)) tp
      · cases tp
    · have ad : Adds F3 H3 (upd F3 r (.tup (cutV xs ol oh))) _ := .new rep3.sub hr
      exact q _ _ _ (rep3.adds ad) (s1.trans (s2.trans (s3.trans ad.ff))) (.tup upd_same ((b2.cut ol oh).mono ad.ff))
  | _ => cases h5
def D.sliceS : D → Option Int → Option Int → Option D
  | .str x, lo, hi => if x.length ≤ 16777216 then some (.str (cutS x lo hi)) else none
  | _, _, _ => none
theorem ped_sliceS (g : Good X K k) (ha : PEd X K a fa) (hl : POd X K lo fl) (hh : POd X K hi fh) : PEd X K (.Subscript a (.Slice lo hi none p2) pos) (dSl D.sliceS fa fl fh) := by
  obtain ⟨ta, ha, sa⟩ := ha
  obtain ⟨tl, hl, sl⟩ := hl
  obtain ⟨th, hh, sh⟩ := hh
  refine ⟨_, pe_slice sl_str ha hl hh, fun G F e σ H d e' Q rep hf q => ?_⟩
  unfold dSl at hf
  simp only [Option.bind_eq_some_iff, Option.map_eq_some_iff] at hf
  obtain ⟨⟨ra, e1⟩, h1, ⟨ol, e2⟩, h2, ⟨oh, e3⟩, h3, x, h4, z, h5, h6⟩ := hf
  cases h6
  refine sa G F e σ H ra e1 _ rep h1 fun v F1 H1 rep1 s1 a1 => sl G F1 e1 σ H1 ol e2 _ rep1 h2 fun F2 H2 rep2 s2 => sh G F2 e2 σ H2 oh e3 _ rep2 h3 fun F3 H3 rep3 s3 => ?_
  have tp := Rep.later a1 rep3 (s2.trans s3) h4
  cases x with
  | str x =>
    simp only [D.sliceS] at h5
    split at h5
    · rename_i hlim
      cases h5
      exact ⟨x, tp.str, lim_le hlim, q _ F3 H3 rep3 (s1.trans (s2.trans s3)) (.str _)⟩
    · cases h5
  | _ => cases h5
end
end HD

/-! built-in functions, methods by data -/
namespace HD
open PySem PySem.Spec PyProof.Rows L2 RT

section
variable {X : Cx} {K : PySem.W.Frag} {k : Nat}
theorem Good.hu2 (g : Good X K k) : X.A.units + 150 < cLine := by have := g.room.un; omega
/-! ### equality of data against an item -/
def pDP (us : List Value) (ds : List D) (x : D) (u : Value) : Prop := ∃ (i : Nat) (d : D), us[i]? = some u ∧ ds[i]? = some d ∧ PyData.eqv d x = true
noncomputable def pD (us : List Value) (ds : List D) (x : D) (u : Value) : Bool := @decide (pDP us ds x u) (Classical.propDecidable _)
theorem pD_iff {us : List Value} {ds : List D} {x : D} {u : Value} : pD us ds x u = true ↔ pDP us ds x u := by
  unfold pD; exact @decide_eq_true_iff _ (Classical.propDecidable _)
theorem allShaped {ds : List D} (h : ds.all SeqAt.shaped = true) {i : Nat} {d : D} (hi : ds[i]? = some d) : SeqAt.shaped d = true := List.all_eq_true.mp h d (List.mem_of_getElem? hi)
theorem eqAt_data {pins : List (Addr × Obj)} {σ : St} {H : Hp} {s : Shared} {A : Around} {v xv : V} {u xu : Value} {d x : D} (I : Inv X pins σ H s) (hu : A.units + 64 < cLine) (hd : At X.K H v d) (hx : At X.K H xv x) (sd : SeqAt.shaped d = true) (sx : SeqAt.shaped x = true) (rv : RelV v u) (rx : RelV xv xu) :
    SeqAt.EqAt A s u xu (PyData.eqv d x) := by
  obtain ⟨as, r1⟩ := Dp.reads I d v u (hd.dp (lay_of_shaped sd)) rv
  obtain ⟨bs, r2⟩ := Dp.reads I x xv xu (hx.dp (lay_of_shaped sx)) rx
  exact SeqAt.eqAt_reads d x A s u xu as bs r1 r2 (lay_of_shaped sd) (lay_of_shaped sx) (SeqAt.room_of_shaped sd hu)
theorem AtL.vals {pins : List (Addr × Obj)} {σ : St} {H : Hp} {vs : List V} {us : List Value} {ds : List D} {K : PySem.W.Frag} (a : AtL K H vs ds) (r : Vals vs us) {i : Nat} {u : Value} {d : D} (h1 : us[i]? = some u) (h2 : ds[i]? = some d) : ∃ v, RelV v u ∧ At K H v d := by
  obtain ⟨v, h3, h4⟩ := a.get h2
  obtain ⟨u', h5, h6⟩ := r.get h3
  rw [h1] at h5
  cases h5
  exact ⟨v, h6, h4⟩
theorem mem_eqD {pins : List (Addr × Obj)} {σ : St} {H : Hp} {s : Shared} {A : Around} {vs : List V} {us : List Value} {ds : List D} {xv : V} {xu : Value} {x : D} (I : Inv X pins σ H s) (hu : A.units + 64 < cLine) (a : AtL X.K H vs ds) (r : Vals vs us) (sd : ds.all SeqAt.shaped = true)
    (hx : At X.K H xv x) (sx : SeqAt.shaped x = true) (rx : RelV xv xu) : ∀ u ∈ us, SeqAt.EqAt A s u xu (pD us ds x u) := by
  intro u hu'
  obtain ⟨i, hi⟩ := List.mem_iff_getElem?.mp hu'
  have hl : us.length = ds.length := by rw [← r.length, a.len]
  have hid : i < ds.length := by rw [← hl]; exact (List.getElem?_eq_some_iff.mp hi).1
  have hd := List.getElem?_eq_getElem hid
  by_cases h : pDP us ds x u
  · have hp : pD us ds x u = true := pD_iff.mpr h
    rw [hp]
    obtain ⟨j, d, h1, h2, h3⟩ := h
    obtain ⟨v, q1, q2⟩ := a.vals (pins := pins) (σ := σ) r h1 h2
    rw [← h3]
    exact eqAt_data I hu q2 hx (allShaped sd h2) sx q1 rx
  · have hp : pD us ds x u = false := by
      cases q : pD us ds x u with
      | false => rfl
      | true => exact (h (pD_iff.mp q)).elim
    rw [hp]
    obtain ⟨v, q1, q2⟩ := a.vals (pins := pins) (σ := σ) r hi hd
    have he : PyData.eqv ds[i] x = false := by
      cases q : PyData.eqv ds[i] x with
      | false => rfl
      | true => exact (h ⟨i, _, hi, hd, q⟩).elim
    rw [← he]
    exact eqAt_data I hu q2 hx (allShaped sd hd) sx q1 rx
/-- at an item, the predicate is as the data tells (whichever place tells it) -/
theorem pD_true {us : List Value} {ds : List D} {x : D} {i : Nat} {u : Value} {d : D} (h1 : us[i]? = some u) (h2 : ds[i]? = some d) (h3 : PyData.eqv d x = true) : pD us ds x u = true := pD_iff.mpr ⟨i, d, h1, h2, h3⟩
theorem any_pD {us : List Value} {ds : List D} {x : D} (hl : us.length = ds.length) : us.any (pD us ds x) = ds.any fun d => PyData.eqv d x := by
  rw [Bool.eq_iff_iff, List.any_eq_true, List.any_eq_true]
  constructor
  · rintro ⟨u, _, h⟩
    obtain ⟨i, d, _, h2, h3⟩ := pD_iff.mp h
    exact ⟨d, List.mem_of_getElem? h2, h3⟩
  · rintro ⟨d, hd, h⟩
    obtain ⟨i, hi⟩ := List.mem_iff_getElem?.mp hd
    have hiu : i < us.length := by rw [hl]; exact (List.getElem?_eq_some_iff.mp hi).1
    exact ⟨us[i], List.getElem_mem hiu, pD_true (List.getElem?_eq_getElem hiu) hi h⟩
/-- the same Value twice stands for data that == tells alike -/
theorem RelV.same {v w : V} {u : Value} (h : RelV v u) (h' : RelV w u) : v = w := h.inj h'

/-! ### in, not in -/
def D.isIn : D → D → Option D
  | x, .list ds => if SeqAt.shaped x = true ∧ ds.all SeqAt.shaped = true then some (.bool (ds.any fun d => PyData.eqv d x)) else none
  | x, .tuple ds => if SeqAt.shaped x = true ∧ ds.all SeqAt.shaped = true then some (.bool (ds.any fun d => PyData.eqv d x)) else none
  | .str a, .str b => some (.bool (!(Builtin.Str.occurrences b a 0 b.length 1).isEmpty))
  | _, _ => none
def D.notIn : D → D → Option D
  | x, .list ds => if SeqAt.shaped x = true ∧ ds.all SeqAt.shaped = true then some (.bool (!ds.any fun d => PyData.eqv d x)) else none
  | x, .tuple ds => if SeqAt.shaped x = true ∧ ds.all SeqAt.shaped = true then some (.bool (!ds.any fun d => PyData.eqv d x)) else none
  | .str a, .str b => some (.bool (!(!(Builtin.Str.occurrences b a 0 b.length 1).isEmpty)))
  | _, _ => none
def rInD (K : PySem.W.Frag) (neg : Bool) : R2 := fun x y H Q => ∃ p xs d ds, y = .ref p ∧ (SqL K H p xs ∨ SqT K H p xs) ∧ At K H x d ∧ AtL K H xs ds ∧ SeqAt.shaped d = true ∧ ds.all SeqAt.shaped = true ∧ Q (.bl (if neg then !(ds.any fun e => PyData.eqv e d) else ds.any fun e => PyData.eqv e d)) H
theorem op_inD (g : Good X K k) : OpR X (compareOp .In) (rInD K false) := by
  have hK := g.K
  subst hK
  intro pins s σ H x y v u Q I rx ry h
  obtain ⟨p, xs, d, ds, rfl, hq, hx, hxs, sx, sxs, q⟩ := h
  cases ry
  have hu : X.A.in1.units + 64 < cLine := by have := g.hu2; show X.A.units + 1 + 64 < cLine; omega
  rcases hq with hq | hq
  · obtain ⟨its, r, pl, hz⟩ := I.list hq
    refine SeqAt.in_listAt (pD its ds d) pl.isList (fun w hw => mem_eqD I hu hxs r sxs hx sx rx w (by simpa using hw)) ⟨.bl _, H, I, rfl, ?_⟩
    rw [show its.toArray.any (pD its ds d) = its.any (pD its ds d) by simp, any_pD (by rw [← r.length, hxs.len])]
    exact q
  · obtain ⟨its, r, pl, hz⟩ := I.tuple hq
    refine SeqAt.in_tupleAt (pD its ds d) pl (fun w hw => mem_eqD I hu hxs r sxs hx sx rx w (by simpa using hw)) ⟨.bl _, H, I, rfl, ?_⟩
    rw [show its.toArray.any (pD its ds d) = its.any (pD its ds d) by simp, any_pD (by rw [← r.length, hxs.len])]
    exact q
theorem op_notInD (g : Good X K k) : OpR X (compareOp .NotIn) (rInD K true) := by
  have hK := g.K
  subst hK
  intro pins s σ H x y v u Q I rx ry h
  obtain ⟨p, xs, d, ds, rfl, hq, hx, hxs, sx, sxs, q⟩ := h
  cases ry
  have hu : X.A.in1.units + 64 < cLine := by have := g.hu2; show X.A.units + 1 + 64 < cLine; omega
  rcases hq with hq | hq
  · obtain ⟨its, r, pl, hz⟩ := I.list hq
    refine SeqAt.notIn_listAt (pD its ds d) pl.isList (fun w hw => mem_eqD I hu hxs r sxs hx sx rx w (by simpa using hw)) ⟨.bl _, H, I, rfl, ?_⟩
    rw [show its.toArray.any (pD its ds d) = its.any (pD its ds d) by simp, any_pD (by rw [← r.length, hxs.len])]
    exact q
  · obtain ⟨its, r, pl, hz⟩ := I.tuple hq
    refine SeqAt.notIn_tupleAt (pD its ds d) pl (fun w hw => mem_eqD I hu hxs r sxs hx sx rx w (by simpa using hw)) ⟨.bl _, H, I, rfl, ?_⟩
    rw [show its.toArray.any (pD its ds d) = its.any (pD its ds d) by simp, any_pD (by rw [← r.length, hxs.len])]
    exact q
def rInAny (K : PySem.W.Frag) : R2 := fun x y H Q => rInD K false x y H Q ∨ (∃ i j, x = .str i ∧ y = .str j ∧ Q (.bl (!(Builtin.Str.occurrences j i 0 j.length 1).isEmpty)) H)
def rNotInAny (K : PySem.W.Frag) : R2 := fun x y H Q => rInD K true x y H Q ∨ (∃ i j, x = .str i ∧ y = .str j ∧ Q (.bl (!(!(Builtin.Str.occurrences j i 0 j.length 1).isEmpty))) H)
theorem op_inAny (g : Good X K k) : OpR X (compareOp .In) (rInAny K) := (op_inD g).or op_in_str
theorem op_notInAny (g : Good X K k) : OpR X (compareOp .NotIn) (rNotInAny K) := (op_notInD g).or op_notin_str
theorem d_isIn : Op2 K (rInAny K) D.isIn := by
  intro F H v u x y z Q s a b hz q
  unfold D.isIn at hz
  split at hz
  · split at hz
    · rename_i hc
      cases hz
      obtain ⟨p, xs, rfl, h1, h2⟩ := b.list s
      exact .inl ⟨p, xs, _, _, rfl, .inl (.of h1), a.whole s, h2.mono s, hc.1, hc.2, q _ F H (.refl s) (.bl _)⟩
    · cases hz
  · split at hz
    · rename_i hc
      cases hz
      obtain ⟨p, xs, rfl, h1, h2⟩ := b.tuple s
      exact .inl ⟨p, xs, _, _, rfl, .inr h1, a.whole s, h2.mono s, hc.1, hc.2, q _ F H (.refl s) (.bl _)⟩
    · cases hz
  · cases hz; exact .inr ⟨_, _, a.str, b.str, q _ F H (.refl s) (.bl _)⟩
  · cases hz
theorem d_notIn : Op2 K (rNotInAny K) D.notIn := by
  intro F H v u x y z Q s a b hz q
  unfold D.notIn at hz
  split at hz
  · split at hz
    · rename_i hc
      cases hz
      obtain ⟨p, xs, rfl, h1, h2⟩ := b.list s
      exact .inl ⟨p, xs, _, _, rfl, .inl (.of h1), a.whole s, h2.mono s, hc.1, hc.2, q _ F H (.refl s) (.bl _)⟩
    · cases hz
  · split at hz
    · rename_i hc
      cases hz
      obtain ⟨p, xs, rfl, h1, h2⟩ := b.tuple s
      exact .inl ⟨p, xs, _, _, rfl, .inr h1, a.whole s, h2.mono s, hc.1, hc.2, q _ F H (.refl s) (.bl _)⟩
    · cases hz
  · cases hz; exact .inr ⟨_, _, a.str, b.str, q _ F H (.refl s) (.bl _)⟩
  · cases hz

/-! ### len, sum, max, min, sorted, any, all, abs -/
def D.len : List D → Option D
  | [.list ds] => some (.int ds.length)
  | [.tuple ds] => some (.int ds.length)
  | [.dict [(.none, .list ds)]] => some (.int ds.length)
  | [.str x] => if x.length ≤ 16777216 then some (.int x.length) else none
  | _ => none
def rLen (K : PySem.W.Frag) : List V → Hp → VK → Prop := fun xs H Q => ∃ x n, xs = [x] ∧ LenV K x H n ∧ Q (.int n) H
theorem call_lenK (g : Good X K k) : CallR X (.builtin "len") (rLen K) := g.K ▸ call_len
theorem TopL.one {F H : Hp} {vs : List V} {d : D} (h : TopL K F H vs [d]) : ∃ v, vs = [v] ∧ Top K F H v d := by
  cases h with
  | cons h1 h2 => cases h2; exact ⟨_, rfl, h1⟩
theorem TopL.two {F H : Hp} {vs : List V} {d e : D} (h : TopL K F H vs [d, e]) : ∃ v u, vs = [v, u] ∧ Top K F H v d ∧ Top K F H u e := by
  cases h with
  | cons h1 h2 =>
    obtain ⟨u, rfl, h3⟩ := TopL.one h2
    exact ⟨_, u, rfl, h1, h3⟩
theorem d_len : OpA K (rLen K) D.len := by
  intro F H vs xs z Q s a hz q
  unfold D.len at hz
  split at hz
  · cases hz
    obtain ⟨v, rfl, h⟩ := a.one
    obtain ⟨p, ys, rfl, h1, h2⟩ := h.list s
    exact ⟨_, _, rfl, .inl ⟨ys, .of h1, rfl⟩, by rw [h2.len]; exact q _ F H (.refl s) (.int _)⟩
  · cases hz
    obtain ⟨v, rfl, h⟩ := a.one
    obtain ⟨p, ys, rfl, h1, h2⟩ := h.tuple s
    exact ⟨_, _, rfl, .inr ⟨ys, h1, rfl⟩, by rw [h2.len]; exact q _ F H (.refl s) (.int _)⟩
  · cases hz
    obtain ⟨v, rfl, h⟩ := a.one
    obtain ⟨p, ys, rfl, h1, h2⟩ := h.scr s
    exact ⟨_, _, rfl, .inl ⟨ys, h1, rfl⟩, by rw [h2.len]; exact q _ F H (.refl s) (.int _)⟩
  · split at hz
    · rename_i hl
      cases hz
      obtain ⟨v, rfl, h⟩ := a.one
      rw [h.str]
      exact ⟨_, _, rfl, ⟨lim_le hl, rfl⟩, q _ F H (.refl s) (.int _)⟩
    · cases hz
  · cases hz
def ints? : List D → Option (List Int)
  | [] => some []
  | .int i :: r => (ints? r).map (i :: ·)
  | _ :: _ => none
theorem ints?_some : ∀ {ds : List D} {ns : List Int}, ints? ds = some ns → ds = ns.map .int
  | [], ns, h => by cases h; rfl
  | .int i :: r, ns, h => by
    simp only [ints?, Option.map_eq_some_iff] at h
    obtain ⟨m, h1, rfl⟩ := h
    rw [ints?_some h1]; rfl
  | .none :: _, _, h => by cases h
  | .bool _ :: _, _, h => by cases h
  | .str _ :: _, _, h => by cases h
  | .list _ :: _, _, h => by cases h
  | .tuple _ :: _, _, h => by cases h
  | .dict _ :: _, _, h => by cases h
theorem ints?_map (ns : List Int) : ints? (ns.map .int) = some ns := by
  induction ns with
  | nil => rfl
  | cons n r ih => simp only [List.map_cons, ints?, ih, Option.map_some]
theorem AtL.ints {F : Hp} : ∀ {ns : List Int} {xs : List V}, AtL K F xs (ns.map .int) → xs = ns.map V.int
  | [], xs, h => by cases h; rfl
  | n :: ns, xs, h => by
    cases h with
    | cons h1 h2 => cases h1; rw [AtL.ints h2]; rfl
theorem atL_ints {F : Hp} : ∀ (ns : List Int), AtL K F (ns.map V.int) (ns.map .int)
  | [] => .nil
  | n :: ns => .cons (.int n) (atL_ints ns)
def bools? : List D → Option (List Bool)
  | [] => some []
  | .bool i :: r => (bools? r).map (i :: ·)
  | _ :: _ => none
theorem bools?_some : ∀ {ds : List D} {ns : List Bool}, bools? ds = some ns → ds = ns.map .bool
  | [], ns, h => by cases h; rfl
  | .bool i :: r, ns, h => by
    simp only [bools?, Option.map_eq_some_iff] at h
    obtain ⟨m, h1, rfl⟩ := h
    rw [bools?_some h1]; rfl
  | .none :: _, _, h => by cases h
  | .int _ :: _, _, h => by cases h
  | .str _ :: _, _, h => by cases h
  | .list _ :: _, _, h => by cases h
  | .tuple _ :: _, _, h => by cases h
  | .dict _ :: _, _, h => by cases h
theorem bools?_map (ns : List Bool) : bools? (ns.map .bool) = some ns := by
  induction ns with
  | nil => rfl
  | cons n r ih => simp only [List.map_cons, bools?, ih, Option.map_some]
theorem AtL.bools {F : Hp} : ∀ {ns : List Bool} {xs : List V}, AtL K F xs (ns.map .bool) → xs = ns.map V.bl
  | [], xs, h => by cases h; rfl
  | n :: ns, xs, h => by
    cases h with
    | cons h1 h2 => cases h1; rw [AtL.bools h2]; rfl
def strs? : List D → Option (List Str)
  | [] => some []
  | .str i :: r => (strs? r).map (i :: ·)
  | _ :: _ => none
theorem strs?_some : ∀ {ds : List D} {ns : List Str}, strs? ds = some ns → ds = ns.map .str
  | [], ns, h => by cases h; rfl
  | .str i :: r, ns, h => by
    simp only [strs?, Option.map_eq_some_iff] at h
    obtain ⟨m, h1, rfl⟩ := h
    rw [strs?_some h1]; rfl
  | .none :: _, _, h => by cases h
  | .int _ :: _, _, h => by cases h
  | .bool _ :: _, _, h => by cases h
  | .list _ :: _, _, h => by cases h
  | .tuple _ :: _, _, h => by cases h
  | .dict _ :: _, _, h => by cases h
theorem strs?_map (ns : List Str) : strs? (ns.map .str) = some ns := by
  induction ns with
  | nil => rfl
  | cons n r ih => simp only [List.map_cons, strs?, ih, Option.map_some]
theorem AtL.strs {F : Hp} : ∀ {ns : List Str} {xs : List V}, AtL K F xs (ns.map .str) → xs = ns.map V.str
  | [], xs, h => by cases h; rfl
  | n :: ns, xs, h => by
    cases h with
    | cons h1 h2 => cases h1; rw [AtL.strs h2]; rfl
theorem atL_strs {F : Hp} : ∀ (ns : List Str), AtL K F (ns.map V.str) (ns.map .str)
  | [] => .nil
  | n :: ns => .cons (.str n) (atL_strs ns)
def D.sum : List D → Option D
  | [.list ds] => (ints? ds).map fun ns => .int ns.sum
  | _ => none
theorem d_sum : OpA K (rSum K) D.sum := by
  intro F H vs xs z Q s a hz q
  unfold D.sum at hz
  split at hz
  · simp only [Option.map_eq_some_iff] at hz
    obtain ⟨ns, h1, rfl⟩ := hz
    obtain ⟨v, rfl, h⟩ := a.one
    obtain ⟨p, ys, rfl, h2, h3⟩ := h.list s
    rw [ints?_some h1] at h3
    rw [h3.ints] at h2
    exact ⟨p, ns, rfl, .of h2, q _ F H (.refl s) (.int _)⟩
  · cases hz
theorem cr_sumK (g : Good X K k) : CallR X (.builtin "sum") (rSum K) := g.K ▸ cr_sum g.calm
def maxL : List Int → Int
  | [] => 0
  | n :: r => r.foldl max n
def minL : List Int → Int
  | [] => 0
  | n :: r => r.foldl min n
theorem foldl_max : ∀ (r : List Int) (n : Int), r.foldl max n ∈ n :: r ∧ ∀ y ∈ n :: r, y ≤ r.foldl max n
  | [], n => by simp
  | m :: r, n => by
    obtain ⟨h1, h2⟩ := foldl_max r (max n m)
    rw [List.foldl_cons]
    refine ⟨?_, fun y hy => ?_⟩
    · rcases List.mem_cons.mp h1 with e | e
      · rw [e]
        rcases Int.le_total n m with z | z
        · rw [Int.max_eq_right z]; simp
        · rw [Int.max_eq_left z]; simp
      · exact List.mem_cons_of_mem _ (List.mem_cons_of_mem _ e)
    · have h3 := h2 (max n m) List.mem_cons_self
      rcases List.mem_cons.mp hy with e | hy
      · subst e; omega
      · rcases List.mem_cons.mp hy with e | hy
        · subst e; omega
        · exact h2 y (List.mem_cons_of_mem _ hy)
theorem foldl_min : ∀ (r : List Int) (n : Int), r.foldl min n ∈ n :: r ∧ ∀ y ∈ n :: r, r.foldl min n ≤ y
  | [], n => by simp
  | m :: r, n => by
    obtain ⟨h1, h2⟩ := foldl_min r (min n m)
    rw [List.foldl_cons]
    refine ⟨?_, fun y hy => ?_⟩
    · rcases List.mem_cons.mp h1 with e | e
      · rw [e]
        rcases Int.le_total n m with z | z
        · rw [Int.min_eq_left z]; simp
        · rw [Int.min_eq_right z]; simp
      · exact List.mem_cons_of_mem _ (List.mem_cons_of_mem _ e)
    · have h3 := h2 (min n m) List.mem_cons_self
      rcases List.mem_cons.mp hy with e | hy
      · subst e; omega
      · rcases List.mem_cons.mp hy with e | hy
        · subst e; omega
        · exact h2 y (List.mem_cons_of_mem _ hy)
theorem maxL_mem {ns : List Int} (h : ns ≠ []) : maxL ns ∈ ns ∧ ∀ y ∈ ns, y ≤ maxL ns := by
  cases ns with
  | nil => exact (h rfl).elim
  | cons n r => exact foldl_max r n
theorem minL_mem {ns : List Int} (h : ns ≠ []) : minL ns ∈ ns ∧ ∀ y ∈ ns, minL ns ≤ y := by
  cases ns with
  | nil => exact (h rfl).elim
  | cons n r => exact foldl_min r n
def D.max1 : List D → Option D
  | [.list ds] => (ints? ds).bind fun ns => if ns.isEmpty = true then none else some (.int (maxL ns))
  | _ => none
def D.min1 : List D → Option D
  | [.list ds] => (ints? ds).bind fun ns => if ns.isEmpty = true then none else some (.int (minL ns))
  | _ => none
theorem d_max1 : OpA K (rMax K) D.max1 := by
  intro F H vs xs z Q s a hz q
  unfold D.max1 at hz
  split at hz
  · simp only [Option.bind_eq_some_iff] at hz
    obtain ⟨ns, h1, hz⟩ := hz
    split at hz
    · cases hz
    · rename_i he
      cases hz
      have hne : ns ≠ [] := fun z => he (by rw [z]; rfl)
      obtain ⟨v, rfl, h⟩ := a.one
      obtain ⟨p, ys, rfl, h2, h3⟩ := h.list s
      rw [ints?_some h1] at h3
      rw [h3.ints] at h2
      refine ⟨p, ns, rfl, .of h2, List.length_pos_iff.mpr hne, fun m hm hall => ?_⟩
      have : m = maxL ns := Int.le_antisymm ((maxL_mem hne).2 m hm) (hall _ (maxL_mem hne).1)
      rw [this]
      exact q _ F H (.refl s) (.int _)
  · cases hz
theorem d_min1 : OpA K (rMin K) D.min1 := by
  intro F H vs xs z Q s a hz q
  unfold D.min1 at hz
  split at hz
  · simp only [Option.bind_eq_some_iff] at hz
    obtain ⟨ns, h1, hz⟩ := hz
    split at hz
    · cases hz
    · rename_i he
      cases hz
      have hne : ns ≠ [] := fun z => he (by rw [z]; rfl)
      obtain ⟨v, rfl, h⟩ := a.one
      obtain ⟨p, ys, rfl, h2, h3⟩ := h.list s
      rw [ints?_some h1] at h3
      rw [h3.ints] at h2
      refine ⟨p, ns, rfl, .of h2, List.length_pos_iff.mpr hne, fun m hm hall => ?_⟩
      have : m = minL ns := Int.le_antisymm (hall _ (minL_mem hne).1) ((minL_mem hne).2 m hm)
      rw [this]
      exact q _ F H (.refl s) (.int _)
  · cases hz
theorem cr_maxK (g : Good X K k) : CallR X (.builtin "max") (rMax K) := g.K ▸ cr_max g.calm
theorem cr_minK (g : Good X K k) : CallR X (.builtin "min") (rMin K) := g.K ▸ cr_min g.calm
def D.max2 : List D → Option D
  | [.int i, .int j] => some (.int (if j > i then j else i))
  | _ => none
def D.min2 : List D → Option D
  | [.int i, .int j] => some (.int (if j < i then j else i))
  | _ => none
theorem d_max2 : OpA K (fun xs H Q => ∃ i j, xs = [.int i, .int j] ∧ Q (.int (if j > i then j else i)) H) D.max2 := by
  intro F H vs xs z Q s a hz q
  unfold D.max2 at hz
  split at hz
  · cases hz
    obtain ⟨v, u, rfl, h1, h2⟩ := a.two
    rw [h1.int, h2.int]
    exact ⟨_, _, rfl, q _ F H (.refl s) (.int _)⟩
  · cases hz
theorem d_min2 : OpA K (fun xs H Q => ∃ i j, xs = [.int i, .int j] ∧ Q (.int (if j < i then j else i)) H) D.min2 := by
  intro F H vs xs z Q s a hz q
  unfold D.min2 at hz
  split at hz
  · cases hz
    obtain ⟨v, u, rfl, h1, h2⟩ := a.two
    rw [h1.int, h2.int]
    exact ⟨_, _, rfl, q _ F H (.refl s) (.int _)⟩
  · cases hz
/-- ascending, by putting one after the other in -/
def insI (x : Int) : List Int → List Int
  | [] => [x]
  | y :: r => if x ≤ y then x :: y :: r else y :: insI x r
def sortI : List Int → List Int
  | [] => []
  | x :: r => insI x (sortI r)
theorem insI_perm (x : Int) : ∀ l : List Int, (insI x l).Perm (x :: l)
  | [] => .refl _
  | y :: r => by
    unfold insI
    split
    · exact .refl _
    · exact (List.Perm.cons y (insI_perm x r)).trans (.swap x y r)
theorem sortI_perm : ∀ l : List Int, (sortI l).Perm l
  | [] => .refl _
  | x :: r => (insI_perm x _).trans (.cons x (sortI_perm r))
theorem insI_sorted (x : Int) : ∀ l : List Int, l.Pairwise (· ≤ ·) → (insI x l).Pairwise (· ≤ ·)
  | [], _ => List.pairwise_singleton _ _
  | y :: r, h => by
    unfold insI
    rw [List.pairwise_cons] at h
    split
    · rename_i hxy
      rw [List.pairwise_cons]
      refine ⟨fun z hz => ?_, List.pairwise_cons.mpr h⟩
      rcases List.mem_cons.mp hz with e | hz
      · rw [e]; exact hxy
      · exact Int.le_trans hxy (h.1 z hz)
    · rename_i hxy
      rw [List.pairwise_cons]
      refine ⟨fun z hz => ?_, insI_sorted x r h.2⟩
      rcases List.mem_cons.mp ((insI_perm x r).mem_iff.mp hz) with e | hz
      · rw [e]; omega
      · exact h.1 z hz
theorem sortI_sorted : ∀ l : List Int, (sortI l).Pairwise (· ≤ ·)
  | [] => List.Pairwise.nil
  | x :: r => insI_sorted x _ (sortI_sorted r)
theorem sortI_uniq {l m : List Int} (p : m.Perm l) (s : m.Pairwise (· ≤ ·)) : m = sortI l :=
  List.Perm.eq_of_pairwise (fun a b _ _ h1 h2 => Int.le_antisymm h1 h2) s (sortI_sorted l) (p.trans (sortI_perm l).symm)
def D.sorted : List D → Option D
  | [.list ds] => (ints? ds).map fun ns => .list ((sortI ns).map .int)
  | _ => none
theorem d_sorted : OpAN K (rSortedI K) D.sorted := by
  intro F H vs xs z Q s a hz q
  unfold D.sorted at hz
  split at hz
  · simp only [Option.map_eq_some_iff] at hz
    obtain ⟨ns, h1, rfl⟩ := hz
    obtain ⟨v, rfl, h⟩ := a.one
    obtain ⟨p, ys, rfl, h2, h3⟩ := h.list s
    rw [ints?_some h1] at h3
    rw [h3.ints] at h2
    refine ⟨p, ns, rfl, .of h2, fun ns' r hp hs hr => ?_⟩
    rw [sortI_uniq hp hs]
    exact q r _ hr (.lst (atL_ints _))
  · cases hz
theorem cr_sortedK (g : Good X K k) : CallR X (.builtin "sorted") (rSortedI K) := g.K ▸ cr_sortedI
def D.any : List D → Option D
  | [.list ds] => (bools? ds).map fun bs => .bool (bs.any id)
  | _ => none
def D.all : List D → Option D
  | [.list ds] => (bools? ds).map fun bs => .bool (bs.all id)
  | _ => none
theorem d_any : OpA K (rAny K) D.any := by
  intro F H vs xs z Q s a hz q
  unfold D.any at hz
  split at hz
  · simp only [Option.map_eq_some_iff] at hz
    obtain ⟨ns, h1, rfl⟩ := hz
    obtain ⟨v, rfl, h⟩ := a.one
    obtain ⟨p, ys, rfl, h2, h3⟩ := h.list s
    rw [bools?_some h1] at h3
    rw [h3.bools] at h2
    exact ⟨p, ns, rfl, .of h2, q _ F H (.refl s) (.bl _)⟩
  · cases hz
theorem d_all : OpA K (rAll K) D.all := by
  intro F H vs xs z Q s a hz q
  unfold D.all at hz
  split at hz
  · simp only [Option.map_eq_some_iff] at hz
    obtain ⟨ns, h1, rfl⟩ := hz
    obtain ⟨v, rfl, h⟩ := a.one
    obtain ⟨p, ys, rfl, h2, h3⟩ := h.list s
    rw [bools?_some h1] at h3
    rw [h3.bools] at h2
    exact ⟨p, ns, rfl, .of h2, q _ F H (.refl s) (.bl _)⟩
  · cases hz
theorem cr_anyK (g : Good X K k) : CallR X (.builtin "any") (rAny K) := g.K ▸ cr_any g.calm
theorem cr_allK (g : Good X K k) : CallR X (.builtin "all") (rAll K) := g.K ▸ cr_all g.calm
def D.abs : List D → Option D
  | [.int i] => some (.int (if i < 0 then -i else i))
  | _ => none
theorem d_abs : OpA K (fun xs H Q => ∃ i, xs = [.int i] ∧ Q (.int (if i < 0 then -i else i)) H) D.abs := by
  intro F H vs xs z Q s a hz q
  unfold D.abs at hz
  split at hz
  · cases hz
    obtain ⟨v, rfl, h⟩ := a.one
    rw [h.int]
    exact ⟨_, rfl, q _ F H (.refl s) (.int _)⟩
  · cases hz
/-! ### int, str, repr, list, tuple -/
def D.int1 : List D → Option D
  | [.int i] => some (.int i)
  | [.bool b] => some (.int (if b then 1 else 0))
  | _ => none
theorem d_int1 : OpA K (fun xs H Q => (∃ i, xs = [.int i] ∧ Q (.int i) H) ∨ ∃ k, xs = [.bl k] ∧ Q (.int (if k then 1 else 0)) H) D.int1 := by
  intro F H vs xs z Q s a hz q
  unfold D.int1 at hz
  split at hz
  · cases hz
    obtain ⟨v, rfl, h⟩ := a.one
    rw [h.int]
    exact .inl ⟨_, rfl, q _ F H (.refl s) (.int _)⟩
  · cases hz
    obtain ⟨v, rfl, h⟩ := a.one
    rw [h.bool]
    exact .inr ⟨_, rfl, q _ F H (.refl s) (.int _)⟩
  · cases hz
/-- str(n), below 10 ^ 577 -/
def D.str1 : List D → Option D
  | [.int i] => if i.natAbs.log2 < 1920 then some (.str (toString i)) else none
  | _ => none
theorem d_str1 : OpA K (fun xs H Q => ∃ i, xs = [.int i] ∧ i.natAbs.log2 < 1920 ∧ Q (.str (toString i)) H) D.str1 := by
  intro F H vs xs z Q s a hz q
  unfold D.str1 at hz
  split at hz
  · split at hz
    · rename_i hl
      cases hz
      obtain ⟨v, rfl, h⟩ := a.one
      rw [h.int]
      exact ⟨_, rfl, hl, q _ F H (.refl s) (.str _)⟩
    · cases hz
  · cases hz
def D.list1 : List D → Option D
  | [.list ds] => some (.list ds)
  | [.tuple ds] => some (.list ds)
  | _ => none
def rListOf (K : PySem.W.Frag) : List V → Hp → VK → Prop := fun xs H Q => ∃ p ys, xs = [.ref p] ∧ (SqL K H p ys ∨ SqT K H p ys) ∧ ∀ l, H l = none → Q (.ref l) (upd H l (.lst ys))
theorem call_listK (g : Good X K k) : CallR X (.type "list") (rListOf K) := g.K ▸ call_list_of
theorem d_list1 : OpAN K (rListOf K) D.list1 := by
  intro F H vs xs z Q s a hz q
  unfold D.list1 at hz
  split at hz
  · cases hz
    obtain ⟨v, rfl, h⟩ := a.one
    obtain ⟨p, ys, rfl, h2, h3⟩ := h.list s
    exact ⟨p, ys, rfl, .inl (.of h2), fun l hl => q l _ hl (.lst h3)⟩
  · cases hz
    obtain ⟨v, rfl, h⟩ := a.one
    obtain ⟨p, ys, rfl, h2, h3⟩ := h.tuple s
    exact ⟨p, ys, rfl, .inr h2, fun l hl => q l _ hl (.lst h3)⟩
  · cases hz
def D.tuple1 : List D → Option D
  | [.list ds] => some (.tuple ds)
  | [.tuple ds] => some (.tuple ds)
  | _ => none
def rTupOf (K : PySem.W.Frag) : List V → Hp → VK → Prop := fun xs H Q => ∃ p ys, xs = [.ref p] ∧ ((SqL K H p ys ∧ ∀ l, H l = none → Q (.ref l) (upd H l (.tup ys))) ∨ (SqT K H p ys ∧ Q (.ref p) H))
theorem call_tupleK (g : Good X K k) : CallR X (.type "tuple") (rTupOf K) := g.K ▸ call_tuple_of
theorem d_tuple1 : OpA K (rTupOf K) D.tuple1 := by
  intro F H vs xs z Q s a hz q
  unfold D.tuple1 at hz
  split at hz
  · cases hz
    obtain ⟨v, rfl, h⟩ := a.one
    obtain ⟨p, ys, rfl, h2, h3⟩ := h.list s
    refine ⟨p, ys, rfl, .inl ⟨.of h2, fun l hl => ?_⟩⟩
    have ad : Adds F H (upd F l (.tup ys)) _ := .new s hl
    exact q _ _ _ ad (.tup upd_same (h3.mono ad.ff))
  · cases hz
    obtain ⟨v, rfl, h⟩ := a.one
    obtain ⟨p, ys, e, h2, h3⟩ := h.tuple s
    refine ⟨p, ys, by rw [e], .inr ⟨h2, ?_⟩⟩
    rcases h with h | ⟨_, _, h⟩
    · rw [← e]; exact q _ F H (.refl s) h
    · cases h
  · cases hz
end
end HD

/-! is, isinstance, repr; methods -/
namespace HD
open PySem PySem.Spec PyProof.Rows L2 RT

section
variable {X : Cx} {K : PySem.W.Frag} {k : Nat}
/-! ### is True, is False -/
def vNoFlt : V → Bool
  | .flt _ => false
  | .byt _ => false
  | .ty _ => false
  | _ => true
def rIsB (neg : Bool) : R2 := fun x y H Q => ∃ b, y = .bl b ∧ vNoFlt x = true ∧ Q (.bl (if neg then !decide (x = .bl b) else decide (x = .bl b))) H
theorem op_isB : OpR X (compareOp .Is) (rIsB false) := by
  intro pins s σ H x y v u Q I rx ry h
  obtain ⟨b, rfl, hx, q⟩ := h
  cases (show u = Value.bool b from ry)
  cases x with
  | bl a =>
    cases (show v = Value.bool a from rx)
    by_cases e : a = b
    · subst e
      exact wpAny_is_self rfl ⟨.bl true, H, I, rfl, by simpa using q⟩
    · exact wpAny_is_other rfl (fun z => e (Value.bool.inj z)) ⟨.bl false, H, I, rfl, by simpa [e] using q⟩
  | non => cases (show v = Value.none from rx); exact wpAny_is_other rfl (fun z => nomatch z) ⟨.bl false, H, I, rfl, by simpa using q⟩
  | int i => obtain ⟨t, rfl⟩ := (show ∃ t, v = Value.int i t from rx); exact wpAny_is_other rfl (fun z => nomatch z) ⟨.bl false, H, I, rfl, by simpa using q⟩
  | str i => obtain ⟨t, rfl⟩ := (show ∃ t, v = Value.str i t from rx); exact wpAny_is_other rfl (fun z => nomatch z) ⟨.bl false, H, I, rfl, by simpa using q⟩
  | ref a => cases (show v = Value.ref a from rx); exact wpAny_is_other rfl (fun z => nomatch z) ⟨.bl false, H, I, rfl, by simpa using q⟩
  | _ => cases hx
theorem op_isnotB : OpR X (compareOp .IsNot) (rIsB true) := by
  intro pins s σ H x y v u Q I rx ry h
  obtain ⟨b, rfl, hx, q⟩ := h
  cases (show u = Value.bool b from ry)
  cases x with
  | bl a =>
    cases (show v = Value.bool a from rx)
    by_cases e : a = b
    · subst e
      exact wpAny_isNot_self rfl ⟨.bl false, H, I, rfl, by simpa using q⟩
    · exact wpAny_isNot_other rfl (fun z => e (Value.bool.inj z)) ⟨.bl true, H, I, rfl, by simpa [e] using q⟩
  | non => cases (show v = Value.none from rx); exact wpAny_isNot_other rfl (fun z => nomatch z) ⟨.bl true, H, I, rfl, by simpa using q⟩
  | int i => obtain ⟨t, rfl⟩ := (show ∃ t, v = Value.int i t from rx); exact wpAny_isNot_other rfl (fun z => nomatch z) ⟨.bl true, H, I, rfl, by simpa using q⟩
  | str i => obtain ⟨t, rfl⟩ := (show ∃ t, v = Value.str i t from rx); exact wpAny_isNot_other rfl (fun z => nomatch z) ⟨.bl true, H, I, rfl, by simpa using q⟩
  | ref a => cases (show v = Value.ref a from rx); exact wpAny_isNot_other rfl (fun z => nomatch z) ⟨.bl true, H, I, rfl, by simpa using q⟩
  | _ => cases hx
def D.isBv : D → Bool → Bool
  | .bool a, b => a == b
  | _, _ => false
theorem Top.isB {F H : Hp} {v : V} {d : D} {b : Bool} (s : Same F H) (h : Top K F H v d) : vNoFlt v = true ∧ decide (v = V.bl b) = D.isBv d b := by
  cases d with
  | none => rw [h.none]; exact ⟨rfl, rfl⟩
  | bool a => rw [h.bool]; refine ⟨rfl, ?_⟩; cases a <;> cases b <;> rfl
  | int a => rw [h.int]; exact ⟨rfl, rfl⟩
  | str a => rw [h.str]; exact ⟨rfl, rfl⟩
  | list ds => obtain ⟨a, xs, rfl, _⟩ := h.list s; exact ⟨rfl, rfl⟩
  | tuple ds => obtain ⟨a, xs, rfl, _⟩ := h.tuple s; exact ⟨rfl, rfl⟩
  | dict ds => obtain ⟨a, rfl, _⟩ := h.dict s; exact ⟨rfl, rfl⟩
def D.isB : D → D → Option D
  | d, .bool b => some (.bool (D.isBv d b))
  | _, _ => none
def D.notB : D → D → Option D
  | d, .bool b => some (.bool (!D.isBv d b))
  | _, _ => none
theorem d_isB : Op2 K (rIsB false) D.isB := by
  intro F H v u x y z Q s a b hz q
  unfold D.isB at hz
  split at hz
  · rename_i d c
    cases hz
    obtain ⟨h1, h2⟩ := a.isB (b := c) s
    exact ⟨c, b.bool, h1, by simp only [Bool.false_eq_true, if_false]; rw [h2]; exact q _ F H (.refl s) (.bl _)⟩
  · cases hz
theorem d_notB : Op2 K (rIsB true) D.notB := by
  intro F H v u x y z Q s a b hz q
  unfold D.notB at hz
  split at hz
  · rename_i d c
    cases hz
    obtain ⟨h1, h2⟩ := a.isB (b := c) s
    exact ⟨c, b.bool, h1, by simp only [if_true]; rw [h2]; exact q _ F H (.refl s) (.bl _)⟩
  · cases hz
/-! ### isinstance -/
inductive Ty where | str | int | bool | tuple | list
def Ty.nm : Ty → String
  | .str => "str" | .int => "int" | .bool => "bool" | .tuple => "tuple" | .list => "list"
def D.kd : D → Option String
  | .none => some "NoneType" | .bool _ => some "bool" | .int _ => some "int" | .str _ => some "str" | .list _ => some "list" | .tuple _ => some "tuple" | .dict _ => none
def isiB : D → Ty → Option Bool
  | .str _, .str => some true
  | .int _, .int => some true
  | .bool _, .int => some true
  | .bool _, .bool => some true
  | .tuple _, .tuple => some true
  | .list _, .list => some true
  | .dict _, _ => none
  | _, _ => some false
theorem kit_tab : ∀ (T : Ty), kitB "NoneType" T.nm = some false ∧ kitB "bool" T.nm = (match T with | .int => some true | .bool => some true | _ => some false) ∧ kitB "int" T.nm = (match T with | .int => some true | _ => some false) ∧
    kitB "str" T.nm = (match T with | .str => some true | _ => some false) ∧ kitB "list" T.nm = (match T with | .list => some true | _ => some false) ∧ kitB "tuple" T.nm = (match T with | .tuple => some true | _ => some false) := by
  intro T
  cases T <;> exact ⟨by decide +kernel, by decide +kernel, by decide +kernel, by decide +kernel, by decide +kernel, by decide +kernel⟩
theorem Top.ty {F H : Hp} {v : V} {d : D} {T : Ty} {b : Bool} (s : Same F H) (h : Top K F H v d) (hb : isiB d T = some b) : ∃ t, TyX K H v (.type t) ∧ kitB t T.nm = some b := by
  obtain ⟨t1, t2, t3, t4, t5, t6⟩ := kit_tab T
  cases d with
  | none => rw [h.none]; exact ⟨_, .base .non, by rw [t1]; cases T <;> exact hb⟩
  | bool a => rw [h.bool]; exact ⟨_, .base (.bl a), by rw [t2]; cases T <;> exact hb⟩
  | int a => rw [h.int]; exact ⟨_, .base (.int a), by rw [t3]; cases T <;> exact hb⟩
  | str a => rw [h.str]; exact ⟨_, .base (.str a), by rw [t4]; cases T <;> exact hb⟩
  | list ds =>
    obtain ⟨a, xs, rfl, h1, _⟩ := h.list s
    exact ⟨_, .base (.lst h1), by rw [t5]; cases T <;> exact hb⟩
  | tuple ds =>
    obtain ⟨a, xs, rfl, h1, _⟩ := h.tuple s
    refine ⟨"tuple", ?_, by rw [t6]; cases T <;> exact hb⟩
    rcases h1 with (h1 | ⟨o, h1⟩) | ⟨o, its, n, h1, h2, _⟩
    · exact .base (.tup h1)
    · exact .fTuple h1
    · exact .kTuple h1 h2
  | dict ds => cases T <;> cases hb
def D.isi (T : Ty) (d : D) : Option D := (isiB d T).map .bool
theorem call_isiK' (g : Good X K k) : CallR X (.builtin "isinstance") (rIsi K) := g.K ▸ call_isi
theorem ped_isi {a : Expr} {fa : XD} {p p2 pos : Pos} {xT : Str} (T : Ty) (g : Good X K k) (ha : PEd X K a fa) (hg : Gl X "isinstance") (hm : X.mg "isinstance" = none) (hgT : Gl X xT) (hmT : X.mg xT = none) (hvT : bootBuiltins xT = some (.type T.nm)) (hn : xT ≠ "__name__" := by decide) (hdT : (xT == ("__debug__" : Str)) = false := by decide)
    (hs1 : starEach [a, .Name xT p2] X.env = (false, eval a X.env) :: starEach [.Name xT p2] X.env := by rfl) (hpl : (backTo pos (starEach [.Name xT p2] X.env)).any (·.1) = false := by rfl) :
    PEd X K (.Call (.Name "isinstance" p) [a, .Name xT p2] [] pos) (dUn (D.isi T) fa) := by
  obtain ⟨ta, ha, sa⟩ := ha
  have hT : PE X (.Name xT p2) (tC (.ty T.nm)) := pe_bltn hgT hmT hvT rfl hn hdT
  refine ⟨_, pe_callB (call_isiK' g) hg hm boot_isinstance (pa_cons ha (pa_cons hT pa_nil (by rfl)) hs1) (by decide) (by decide) hs1 hpl, fun G F e σ H r' e' Q rep hf q => ?_⟩
  obtain ⟨ra, x, z, hfa, hx, hz, rfl⟩ := dUn_some hf
  refine sa G F e σ H ra e' _ rep hfa fun v F1 H1 rep1 s1 a1 => ?_
  simp only [D.isi, Option.map_eq_some_iff] at hz
  obtain ⟨b, hb, rfl⟩ := hz
  obtain ⟨t, h1, h2⟩ := (a1.top rep1 hx).ty rep1.sub hb
  exact ⟨v, _, _, _, b, rfl, .ty _, h1, kit_ty h2, q _ F1 H1 rep1 s1 (.bl _)⟩
/-! ### repr -/
theorem call_repr_str : CallR X (.builtin "repr") (fun xs H Q => ∃ a, xs = [.str a] ∧ (reprText a).length ≤ sizeLine ∧ Q (.str (reprText a)) H) := by
  intro pins s σ H xs us Q I r h
  obtain ⟨a, rfl, hz, q⟩ := h
  obtain ⟨u, rfl, t, rfl⟩ := vals1 r
  exact PySem.P.repr_of_str ⟨.str _, H, I.tok _, ⟨_, rfl⟩, q⟩ hz
def rRepr : List V → Hp → VK → Prop := fun xs H Q => (∃ i, xs = [.int i] ∧ i.natAbs.log2 < 1920 ∧ Q (.str (toString i)) H) ∨ (∃ a, xs = [.str a] ∧ (reprText a).length ≤ sizeLine ∧ Q (.str (reprText a)) H)
theorem call_repr : CallR X (.builtin "repr") rRepr := SkE.call_repr_int.or call_repr_str
def D.repr : List D → Option D
  | [.int i] => if i.natAbs.log2 < 1920 then some (.str (toString i)) else none
  | [.str x] => if (reprText x).length ≤ 16777216 then some (.str (reprText x)) else none
  | _ => none
theorem d_repr : OpA K rRepr D.repr := by
  intro F H vs xs z Q s a hz q
  unfold D.repr at hz
  split at hz
  · split at hz
    · rename_i hl
      cases hz
      obtain ⟨v, rfl, h⟩ := a.one
      rw [h.int]
      exact .inl ⟨_, rfl, hl, q _ F H (.refl s) (.str _)⟩
    · cases hz
  · split at hz
    · rename_i hl
      cases hz
      obtain ⟨v, rfl, h⟩ := a.one
      rw [h.str]
      exact .inr ⟨_, rfl, lim_le hl, q _ F H (.refl s) (.str _)⟩
    · cases hz
  · cases hz
/-! ### methods that change an object of one's own -/
def OpM (K : PySem.W.Frag) (r : V → List V → Hp → VK → Prop) (g : D → List D → Option (D × D)) : Prop := ∀ (F H : Hp) (p : Addr) (o : HO) (vs : List V) (d : D) (xs : List D) (z d' : D) (Q : VK), Same F H → H p = some o → Own K F o d → AtL K F vs xs → g d xs = some (z, d') →
  (∀ w o', At K F w z → Own K F o' d' → Q w (upd H p o')) → r (.ref p) vs H Q
def dMut (g : D → List D → Option (D × D)) (fo : XD) (fa : AD) : XD := fun e => (fo e).bind fun p => (fa p.2).bind fun q => (takeAll q.2 q.1).bind fun a => match p.1 with
  | .slot j => (cellAt a.2 j).bind fun c => (g c a.1).bind fun z => (setH a.2 j z.2).map fun e' => (.dat z.1, e')
  | .dat _ => none
theorem tyL {H : Hp} {p : Addr} {xs : List V} (h : H p = some (.lst xs)) : tyV K "list" (.ref p) H := .inl ⟨rfl, xs, .of h⟩
def OpTy (K : PySem.W.Frag) (T : String) (g : D → List D → Option (D × D)) : Prop := ∀ (F H : Hp) (p : Addr) (o : HO) (d : D), Own K F o d → H p = some o → (∃ xs z, g d xs = some z) → tyV K T (.ref p) H
theorem opTy_list {g : D → List D → Option (D × D)} (h : ∀ d xs z, g d xs = some z → ∃ ds, d = .list ds) : OpTy K "list" g := by
  intro F H p o d ho hp ⟨xs, z, hg⟩
  obtain ⟨ds, rfl⟩ := h d xs z hg
  cases ho with
  | lst h1 => exact tyL hp
/-- the receiver keeps its kind while the arguments are reckoned -/
theorem sem_mut {T : String} {r : V → List V → Hp → VK → Prop} {g : D → List D → Option (D × D)} {to : TE} {ta : TA} {fo : XD} {fa : AD} (hT : T = "list") (so : SemE K to fo) (sa : SemA K ta fa) (h : OpM K r g) (hl : ∀ d xs z, g d xs = some z → ∃ ds, d = .list ds)
    (hkeep : ∀ e j e1, fo e = some (.slot j, e1) → ∃ ds, cellAt e1 j = some (.list ds)) : SemE K (tBM K T r to ta) (dMut g fo fa) := by
  subst hT
  intro G F e σ H r' e' Q rep hf q
  unfold dMut at hf
  simp only [Option.bind_eq_some_iff] at hf
  obtain ⟨⟨ro, e1⟩, h1, ⟨rs, e2⟩, h2, ⟨xs, e3⟩, h3, hf⟩ := hf
  cases ro with
  | dat _ => cases hf
  | slot j =>
    simp only [Option.bind_eq_some_iff, Option.map_eq_some_iff] at hf
    obtain ⟨c, h4, ⟨z, d'⟩, h5, e4, h6, h7⟩ := hf
    cases h7
    refine so G F e σ H _ e1 _ rep h1 fun v F1 H1 rep1 s1 a1 => ⟨?_, sa G F1 e1 σ H1 rs e2 _ rep1 h2 fun vs F2 H2 rep2 s2 hvl a2 => ?_⟩
    · obtain ⟨ds, hds⟩ := hkeep e j e1 h1
      obtain ⟨c0, hc0, hd0⟩ := cellAt_some hds
      obtain ⟨p, o, q1, q2, q3, _⟩ := rep1.own j c0 _ hc0 hd0
      have : v = .ref p := by have := a1.1; rw [q1] at this; cases this; rfl
      subst this
      cases q3 with
      | lst h1 => exact tyL q2
    · obtain ⟨F3, rep3, s3, a3⟩ := rep2.takes hvl a2 h3
      obtain ⟨c0, hc0, hd0⟩ := cellAt_some h4
      obtain ⟨p, o, q1, q2, q3, q4, _⟩ := rep3.own j c0 _ hc0 hd0
      have : v = .ref p := by have := a1.1; rw [q1] at this; cases this; rfl
      subst this
      refine h F3 H2 p o vs c xs z d' _ rep3.sub q2 q3 a3 h5 fun w o' hw ho' => ?_
      exact q w F3 _ (rep3.write q1 (o := o) ho' h6) (s1.trans (s2.trans s3)) hw
variable {o e : Expr} {es : List Expr} {fo : XD} {fa : AD} {name : Str} {apos cpos : Pos} {id : String} {r : V → List V → Hp → VK → Prop} {g : D → List D → Option (D × D)}
/-- slot j, which holds a list -/
def dSlot (i : Nat) : XD := fun e => match e[i]? with
  | some (.own (.list _)) => some (.slot i, e)
  | some (.io (.list _)) => some (.slot i, e)
  | _ => none
theorem ped_slot {i : Nat} {x : Str} {pos : Pos} (hN : X.N[i]? = some x := by rfl) (hv : Vis X.env.scope x := by first | exact Or.inl rfl | exact Or.inr (Or.inl rfl) | exact Or.inr (Or.inr rfl)) (hd : (x == ("__debug__" : Str)) = false := by decide)
    (hcd : (x == ("__classdict__" : Str)) = false := by decide) : PEd X K (.Name x pos) (dSlot i) := by
  refine ⟨_, pe_var hN hv hd hcd, fun G F e σ H r e' Q rep hf q => ?_⟩
  unfold dSlot at hf
  split at hf
  · rename_i d hd
    cases hf
    obtain ⟨p, o, h1, _⟩ := rep.own i _ _ hd rfl
    exact ⟨_, h1, q _ F H rep (.refl _) ⟨h1, _, cellAt_of hd rfl⟩⟩
  · rename_i d hd
    cases hf
    obtain ⟨p, o, h1, _⟩ := rep.own i _ _ hd rfl
    exact ⟨_, h1, q _ F H rep (.refl _) ⟨h1, _, cellAt_of hd rfl⟩⟩
  · cases hf
theorem dSlot_keep {i : Nat} : ∀ (e : Env) (j : Nat) (e1 : Env), dSlot i e = some (.slot j, e1) → ∃ ds, cellAt e1 j = some (.list ds) := by
  intro e j e1 h
  unfold dSlot at h
  split at h
  · rename_i ds hd; cases h; exact ⟨ds, cellAt_of hd rfl⟩
  · rename_i ds hd; cases h; exact ⟨ds, cellAt_of hd rfl⟩
  · cases h
theorem ped_mut {i : Nat} {x : Str} {ps : Pos} (g0 : Good X K k) (slot : Slot "list" name id) (hty : typeOf (.builtin id) = pure (.type "method_descriptor")) (hm : MtR X id r) (h : OpM K r g) (hl : ∀ d xs z, g d xs = some z → ∃ ds, d = .list ds)
    (ho : PEd X K (.Name x ps) (dSlot i)) (ha : PAd X K (e :: es) fa)
    (hbase : attributeBase (.Name x ps) name X.env (eval (.Name x ps) X.env) = eval (.Name x ps) X.env := by rfl)
    (hfew : ((backTo cpos (starEach (e :: es) X.env)).all (fun x => !x.1) && (backToKw cpos (keywordEach [] X.env)).all (fun x => x.1.isSome)
      && decide ((e :: es).length + ([] : List Keyword).length + (if ([] : List Keyword).isEmpty then 0 else 1) < 30)) = true := by rfl)
    (hline : (apos.endLine == cpos.line) = true := by rfl) (hs : starEach (e :: es) X.env = (false, eval e X.env) :: starEach es X.env := by rfl) (hplain : (backTo cpos (starEach es X.env)).any (·.1) = false := by rfl) :
    PEd X K (.Call (.Attribute (.Name x ps) name apos) (e :: es) [] cpos) (dMut g (dSlot i) fa) := by
  obtain ⟨to, ho, so⟩ := ho
  obtain ⟨ta, ha, sa⟩ := ha
  have hK := g0.K
  subst hK
  exact ⟨_, pe_bm F.plainAttrs_list slot hty hm ho ha hbase hfew hline hs hplain, sem_mut rfl so sa h hl dSlot_keep⟩
theorem ped_mut0 {i : Nat} {x : Str} {ps : Pos} (g0 : Good X K k) (slot : Slot "list" name id) (hty : typeOf (.builtin id) = pure (.type "method_descriptor")) (hm : MtR X id r) (h : OpM K r g) (hl : ∀ d xs z, g d xs = some z → ∃ ds, d = .list ds)
    (ho : PEd X K (.Name x ps) (dSlot i))
    (hbase : attributeBase (.Name x ps) name X.env (eval (.Name x ps) X.env) = eval (.Name x ps) X.env := by rfl) (hline : (apos.endLine == cpos.line) = true := by rfl) :
    PEd X K (.Call (.Attribute (.Name x ps) name apos) [] [] cpos) (dMut g (dSlot i) dA0) := by
  obtain ⟨to, ho, so⟩ := ho
  have hK := g0.K
  subst hK
  refine ⟨_, pe_bm0 F.plainAttrs_list slot hty hm ho hbase hline, ?_⟩
  have s0 : SemA X.K tNil dA0 := fun G F e σ H rs e' Q rep hf q => by
    cases hf
    exact q [] F H rep (.refl _) rfl (fun i v r h => by simp at h)
  exact sem_mut (ta := tNil) rfl so s0 h hl dSlot_keep
def D.append : D → List D → Option (D × D)
  | .list ds, [x] => if ds.length < 16777216 then some (.none, .list (ds ++ [x])) else none
  | _, _ => none
theorem d_append : OpM K rAppend D.append := by
  intro F H p o vs d xs z d' Q s hp ho a hz q
  unfold D.append at hz
  split at hz
  · split at hz
    · rename_i hl
      cases hz
      cases ho with
      | lst h1 =>
        cases a with
        | cons a1 a2 =>
          cases a2
          exact ⟨p, _, _, rfl, rfl, hp, by rw [h1.len]; exact lim_lt hl, q _ _ .non (.lst (h1.app (.cons a1 .nil)))⟩
    · cases hz
  · cases hz
theorem append_l : ∀ d xs z, D.append d xs = some z → ∃ ds, d = .list ds := by
  intro d xs z h; unfold D.append at h; split at h; exact ⟨_, rfl⟩; cases h
def D.extend : D → List D → Option (D × D)
  | .list ds, [.list es] => if ds.length + es.length ≤ 16777216 then some (.none, .list (ds ++ es)) else none
  | _, _ => none
theorem d_extend : OpM K rExtend D.extend := by
  intro F H p o vs d xs z d' Q s hp ho a hz q
  unfold D.extend at hz
  split at hz
  · split at hz
    · rename_i hl
      cases hz
      cases ho with
      | lst h1 =>
        cases a with
        | cons a1 a2 =>
          cases a2
          cases a1 with
          | lst b1 b2 =>
            exact ⟨p, _, _, _, rfl, rfl, hp, s _ _ b1, by rw [h1.len, b2.len]; exact lim_le hl, q _ _ .non (.lst (h1.app b2))⟩
    · cases hz
  · cases hz
theorem extend_l : ∀ d xs z, D.extend d xs = some z → ∃ ds, d = .list ds := by
  intro d xs z h; unfold D.extend at h; split at h; exact ⟨_, rfl⟩; cases h
def D.pop : D → List D → Option (D × D)
  | .list ds, [] => (ds[ds.length - 1]?).map fun y => (y, .list ds.dropLast)
  | _, _ => none
theorem d_pop : OpM K rPop D.pop := by
  intro F H p o vs d xs z d' Q s hp ho a hz q
  unfold D.pop at hz
  split at hz
  · simp only [Option.map_eq_some_iff] at hz
    obtain ⟨y, h, hz⟩ := hz
    cases hz
    cases ho with
    | lst h1 =>
      cases a
      obtain ⟨w, h2, h3⟩ := h1.get h
      exact ⟨p, _, w, rfl, rfl, hp, by rw [h1.len]; exact h2, q _ _ h3 (.lst h1.dropLast)⟩
  · cases hz
theorem pop_l : ∀ d xs z, D.pop d xs = some z → ∃ ds, d = .list ds := by
  intro d xs z h; unfold D.pop at h; split at h; exact ⟨_, rfl⟩; cases h
def D.popAt : D → List D → Option (D × D)
  | .list ds, [.int i] => if i.natAbs < 2 ^ 63 then (seqIndex? i ds.length).bind fun j => (ds[j]?).map fun y => (y, .list (ds.eraseIdx j)) else none
  | _, _ => none
theorem d_popAt : OpM K rPopAt D.popAt := by
  intro F H p o vs d xs z d' Q s hp ho a hz q
  unfold D.popAt at hz
  split at hz
  · split at hz
    · rename_i hc
      simp only [Option.bind_eq_some_iff, Option.map_eq_some_iff] at hz
      obtain ⟨j, hj, y, h, hz⟩ := hz
      cases hz
      cases ho with
      | lst h1 =>
        cases a with
        | cons a1 a2 =>
          cases a2
          cases a1
          obtain ⟨w, h2, h3⟩ := h1.get h
          exact ⟨p, _, _, j, w, rfl, rfl, hp, by omega, by omega, by rw [h1.len]; exact hj, h2, q _ _ h3 (.lst (h1.erase j))⟩
    · cases hz
  · cases hz
theorem popAt_l : ∀ d xs z, D.popAt d xs = some z → ∃ ds, d = .list ds := by
  intro d xs z h; unfold D.popAt at h; split at h; exact ⟨_, rfl⟩; cases h
def D.reverse : D → List D → Option (D × D)
  | .list ds, [] => some (.none, .list ds.reverse)
  | _, _ => none
theorem d_reverse : OpM K rReverse D.reverse := by
  intro F H p o vs d xs z d' Q s hp ho a hz q
  unfold D.reverse at hz
  split at hz
  · cases hz
    cases ho with
    | lst h1 => cases a; exact ⟨p, _, rfl, rfl, hp, q _ _ .non (.lst h1.rev)⟩
  · cases hz
theorem reverse_l : ∀ d xs z, D.reverse d xs = some z → ∃ ds, d = .list ds := by
  intro d xs z h; unfold D.reverse at h; split at h; exact ⟨_, rfl⟩; cases h
/-- xs[i] = v -/
def D.setIx : D → D → D → Option D
  | .list ds, .int i, v => (ixN ds.length i).map fun j => .list (ds.set j v)
  | _, _, _ => none
theorem d_setIx : OpSet K rSetL D.setIx := by
  intro F H p o i v d di dv z Q s hp ho hi hv hz q
  unfold D.setIx at hz
  split at hz
  · simp only [Option.map_eq_some_iff] at hz
    obtain ⟨j, hj, rfl⟩ := hz
    cases ho with
    | lst h1 => exact ⟨p, _, _, j, rfl, hi.int, hp, by rw [h1.len]; exact hj, q _ (.lst (h1.set j hv))⟩
  · cases hz
end
end HD

/-! defs as they stand behind the top; the law's end -/
namespace HD
open PySem PySem.Spec PyProof.Rows L2 RT

/-- a def of the text: where it stands -/
structure Def (K : PySem.W.Frag) (mg : Str → Option Value) (x : Str) (st : Stmt) (ps : List Str) : Prop where
  ex : ∃ a fd, Fun K x x st a fd ∧ mg x = some (.ref a) ∧ Binds K fd ps []
/-- a def with its promise -/
structure Cal (P : Program) (w : World) (K : PySem.W.Frag) (mg : Str → Option Value) (base : Heap) (x : Str) (k : Nat) (ps : List Str) (ms : List Bool) (f : List D → Option (D × List D)) : Prop where
  ex : ∃ a fd, FnOk P w K mg base CX0 k a fd ps (spF K ms f) ∧ mg x = some (.ref a) ∧ PySem.W.keepIn K (.ref a) = true ∧ Binds K fd ps [] ∧ ∃ oc od osl, K.lookup a = some ⟨oc, od, .func fd, osl⟩
abbrev fuel : Nat := 1000000
section
variable {P : Program} {w : World} {K : PySem.W.Frag} {mg : Str → Option Value} {base : Heap} {x : Str}
abbrev bodyX (P : Program) (w : World) (K : PySem.W.Frag) (mg : Str → Option Value) (base : Heap) (N : List Str) (qual : Str) (st : Stmt) (f : Addr) (cdv : Value) (A : Around) (outer : List PySem.Env) (s : Shared) (H : Hp) (E : XK) : Cx :=
  (cxOf CX0 P w K mg base N qual (defScope st) f cdv A outer s H E).nox
theorem fn_ok' {qual : Str} {st : Stmt} {f : Addr} {fd : FuncData} {N ps : List Str} {k : Nat} {ms : List Bool} {body : SD} (F : Fun K x qual st f fd) (S : FnScope N ps (defScope st)) (hm : ms.length = ps.length) (hN : ps.length ≤ N.length)
    (hb : ∀ (cdv : Value) (A : Around) (outer : List PySem.Env) (s : Shared) (H : Hp) (E : XK), Good (bodyX P w K mg base N qual st f cdv A outer s H E) K k → PSsd (bodyX P w K mg base N qual st f cdv A outer s H E) K (defBody st) body) :
    FnOk P w K mg base CX0 (k + 1) f fd ps (spF K ms (dFn N.length ms body)) := by
  refine F.ok S (fun vs H Q E h => ?_) (fun cdv A outer s H vs Q E hr h => ?_)
  · obtain ⟨F0, ds, z, outs, _, ha, _⟩ := h
    rw [ha.len.1, hm]
  · obtain ⟨F0, ds, z, outs, hs, ha, hnd, hf, q⟩ := h
    obtain ⟨t, ht, st'⟩ := hb cdv A outer s H E ⟨rfl, rfl, S.nd, hr⟩
    refine ⟨t, ht, ?_⟩
    unfold dFn at hf
    simp only [Option.bind_eq_some_iff] at hf
    obtain ⟨e, he, o, ho, hf⟩ := hf
    have rep := rep_start (N := N) hs ha hnd he (by omega)
    refine st' _ F0 _ _ H o _ rep ho ?_
    have fin : ∀ {wv : V} {d : D} {e' : Env} {σ : St} {F' H' : Hp} {os : List D}, Rep K ⟨H, F0, ioSlots 0 ms vs⟩ F' e' σ H' → Same F0 F' → At K F' wv d → outsE e' 0 ms = some os → z = d → outs = os → Q wv H' := by
      intro wv d e' σ F' H' os r1 ss aw hos ez eo
      subst ez
      subst eo
      refine q wv F' H' (fun b x hb hn => r1.frame b x hb ?_) ss r1.sub r1.fr aw (outs_at r1 0 ha.len.1 (fun j p hm hv => ?_) ha.ref hos)
      · show b ∉ (ioSlots 0 ms vs).map (·.2)
        rw [ioSlots_snd]; exact hn
      · have := ha.inSlots 0 j p hm hv
        rw [Nat.zero_add] at this ⊢
        exact (r1.io _ this).1
    cases o with
    | nx e' =>
      simp only [Option.map_eq_some_iff] at hf
      obtain ⟨os, h1, h2⟩ := hf
      cases h2
      exact fun σ F' H' r1 ss => fin r1 ss .non h1 rfl rfl
    | rt d e' =>
      simp only [Option.map_eq_some_iff] at hf
      obtain ⟨os, h1, h2⟩ := hf
      cases h2
      exact fun v σ F' H' r1 ss aw => fin r1 ss aw h1 rfl rfl
    | ro d e' => cases hf
    | bk e' => cases hf
    | ct e' => cases hf
theorem Fun.look {qual : Str} {st : Stmt} {f : Addr} {fd : FuncData} (F : Fun K x qual st f fd) : ∃ oc od osl, K.lookup f = some ⟨oc, od, .func fd, osl⟩ := by
  obtain ⟨oc, od, kV, doc, pm, an, cdv, ct, osl, rfl, lk, hcd⟩ := F.ex
  exact ⟨_, _, _, lk⟩
theorem mk_cal {st : Stmt} {N ps : List Str} {k n : Nat} {ms : List Bool} {body : SD} (d : Def K mg x st ps) (S : FnScope N ps (defScope st)) (hn : N.length = n) (hm : ms.length = ps.length) (hN : ps.length ≤ N.length)
    (hb : ∀ (f : Addr) (cdv : Value) (A : Around) (outer : List PySem.Env) (s : Shared) (H : Hp) (E : XK), Good (bodyX P w K mg base N x st f cdv A outer s H E) K k → PSsd (bodyX P w K mg base N x st f cdv A outer s H E) K (defBody st) body) :
    Cal P w K mg base x (k + 1) ps ms (dFn n ms body) := by
  subst hn
  obtain ⟨a, fd, F, hg, hbd⟩ := d.ex
  exact ⟨a, fd, fn_ok' F S hm hN (hb a), hg, F.kp, hbd, Fun.look F⟩
theorem Cal.mono {k j : Nat} {ps : List Str} {ms : List Bool} {f : List D → Option (D × List D)} (c : Cal P w K mg base x j ps ms f) (h : j ≤ k) : Cal P w K mg base x k ps ms f := by
  obtain ⟨a, fd, F, h1, h2, h3, h4⟩ := c.ex
  exact ⟨a, fd, F.mono h, h1, h2, h3, h4⟩
/-- another denotation, where it tells no more -/
theorem Cal.imp {k : Nat} {ps : List Str} {ms : List Bool} {f f' : List D → Option (D × List D)} (c : Cal P w K mg base x k ps ms f) (h : ∀ ds z, f' ds = some z → f ds = some z) : Cal P w K mg base x k ps ms f' := by
  obtain ⟨a, fd, F, h1, h2, h3, h4⟩ := c.ex
  refine ⟨a, fd, F.imp fun vs H Q E ⟨F0, ds, z, outs, g1, g2, g3, g4, g5⟩ => ⟨F0, ds, z, outs, g1, g2, g3, h _ _ g4, g5⟩, h1, h2, h3, h4⟩
/-- no promise at all -/
theorem Cal.bot {st : Stmt} {ps : List Str} {ms : List Bool} (d : Def K mg x st ps) : Cal P w K mg base x 0 ps ms (fun _ => none) := by
  obtain ⟨a, fd, F, hg, hbd⟩ := d.ex
  exact ⟨a, fd, ⟨fun vs H Q E h => (by obtain ⟨_, _, _, _, _, _, _, h, _⟩ := h; cases h), fun A outer s H args us vs Q E _ _ _ _ h => (by obtain ⟨_, _, _, _, _, _, _, h, _⟩ := h; cases h)⟩, hg, F.kp, hbd, Fun.look F⟩
end
section
variable {X : Cx} {K : PySem.W.Frag} {k j : Nat} {a b : Expr} {es : List Expr} {fa fb : XD} {fr : AD} {ps : List Str} {ms : List Bool} {Ff : List D → Option (D × List D)} {x : Str} {p p2 pos pos2 : Pos}
theorem ped_calC (g : Good X K k) (c : Cal X.prog X.w X.K X.mg X.base x j ps ms Ff) (hk : j ≤ k) (hg : Gl X x) (ha : PAd X K (a :: es) fr) (hdb : (x == ("__debug__" : Str)) = false := by decide) (he : starEach (a :: es) X.env = (false, eval a X.env) :: starEach es X.env := by rfl) (hpl : (backTo pos (starEach es X.env)).any (·.1) = false := by rfl) :
    PEd X K (.Call (.Name x p) (a :: es) [] pos) (dCall ms Ff fr) := by
  have hK := g.K
  subst hK
  obtain ⟨ad, fd, F, h1, h2, h3, _⟩ := c.ex
  exact ped_call g F hk hg h1 h2 h3 ha hdb he hpl
theorem ped_calB (g : Good X K k) (c : Cal X.prog X.w X.K X.mg X.base x j ps ms Ff) (hk : j ≤ k) (hlen : ∀ ds z, Ff ds = some z → ds.length = ms.length) (hg : Gl X x) (ha : PAd X K (a :: es) fr) (hdb : (x == ("__debug__" : Str)) = false := by decide) (he : starEach (a :: es) X.env = (false, eval a X.env) :: starEach es X.env := by rfl) (hpl : (backTo pos (starEach es X.env)).any (·.1) = false := by rfl) :
    PEd X K (.Call (.Name x p) (a :: es) [] pos) (dCallB ms Ff fr) := by
  have hK := g.K
  subst hK
  obtain ⟨ad, fd, F, h1, h2, h3, _⟩ := c.ex
  exact ped_callBr g F hk hlen hg h1 h2 h3 ha hdb he hpl
theorem ped_calC0 (g : Good X K k) (c : Cal X.prog X.w X.K X.mg X.base x j ps [] Ff) (hk : j ≤ k) (hg : Gl X x) (hdb : (x == ("__debug__" : Str)) = false := by decide) : PEd X K (.Call (.Name x p) [] [] pos) (dCall [] Ff dA0) := by
  have hK := g.K
  subst hK
  obtain ⟨ad, fd, F, h1, h2, h3, _⟩ := c.ex
  exact ped_call0 g F hk hg h1 h2 h3 hdb
/-! ### list(range(..)) -/
theorem rgV_at {F : Hp} (lo hi : Int) : AtL K F (rgV lo hi) (rangeD lo (hi - lo).toNat) := by
  unfold rgV rangeD
  generalize (hi - lo).toNat = n
  generalize List.range n = l
  induction l with
  | nil => exact .nil
  | cons i r ih => exact .cons (.int _) ih
def rgLim (lo hi : Int) : Bool := decide (lo.natAbs < 2 ^ 62) && decide (hi.natAbs < 2 ^ 62) && decide ((hi - lo).toNat ≤ 16777216)
theorem rgLim_ok {lo hi : Int} (h : rgLim lo hi = true) : RgOk lo hi := by
  simp only [rgLim, Bool.and_eq_true, decide_eq_true_eq] at h
  exact ⟨by omega, by omega, by omega, by omega, h.2⟩
def dListRg1 (fa : XD) : ND := fun e => (fa e).bind fun q => match q.1 with
  | .dat (.int n) => if rgLim 0 n = true then some (.list (rangeD 0 n.toNat), q.2) else none
  | _ => none
def dListRg2 (fa fb : XD) : ND := fun e => (fa e).bind fun q => (fb q.2).bind fun r => match q.1, r.1 with
  | .dat (.int m), .dat (.int n) => if rgLim m n = true then some (.list (rangeD m (n - m).toNat), r.2) else none
  | _, _ => none
theorem pnd_listRg1 (g : Good X K k) (hg : Gl X "list") (hm : X.mg "list" = none) (hg2 : Gl X "range") (hm2 : X.mg "range" = none) (ha : PEd X K a fa) (na : starEach [a] X.env = (false, eval a X.env) :: starEach [] X.env := by rfl)
    (na2 : starEach [.Call (.Name "range" p2) [a] [] pos2] X.env = (false, eval (.Call (.Name "range" p2) [a] [] pos2) X.env) :: starEach [] X.env := by rfl) : PNd X K (.Call (.Name "list" p) [.Call (.Name "range" p2) [a] [] pos2] [] pos) (dListRg1 fa) := by
  obtain ⟨ta, ha, sa⟩ := ha
  refine ⟨_, pe_listRg g.calm hg hm (prg_1 hg2 hm2 ha na) na2, fun G F e σ H d e' Q rep hf q => ?_⟩
  unfold dListRg1 at hf
  simp only [Option.bind_eq_some_iff] at hf
  obtain ⟨⟨r, e1⟩, h1, h2⟩ := hf
  cases r with
  | slot i => cases h2
  | dat d0 => cases d0 with
    | int n =>
      simp only at h2
      split at h2
      · rename_i hl
        cases h2
        refine sa G F e σ H _ _ _ rep h1 fun v F1 H1 rep1 s1 a1 => ⟨n, at_int a1, rgLim_ok hl, fun r hr => ?_⟩
        have ho : Own K F1 (.lst (rgV 0 n)) (.list (rangeD 0 n.toNat)) := .lst (by have := rgV_at (K := K) (F := F1) 0 n; rwa [Int.sub_zero] at this)
        obtain ⟨r1, f1⟩ := rep1.new hr ho
        exact q r F1 _ r1 s1 f1
      · cases h2
    | _ => cases h2
theorem pnd_listRg2 (g : Good X K k) (hg : Gl X "list") (hm : X.mg "list" = none) (hg2 : Gl X "range") (hm2 : X.mg "range" = none) (ha : PEd X K a fa) (hb : PEd X K b fb) (na : starEach [a, b] X.env = (false, eval a X.env) :: starEach [b] X.env := by rfl) (nb : starEach [b] X.env = (false, eval b X.env) :: starEach [] X.env := by rfl) (hp2 : (backTo pos2 (starEach [b] X.env)).any (·.1) = false := by rfl)
    (na2 : starEach [.Call (.Name "range" p2) [a, b] [] pos2] X.env = (false, eval (.Call (.Name "range" p2) [a, b] [] pos2) X.env) :: starEach [] X.env := by rfl) : PNd X K (.Call (.Name "list" p) [.Call (.Name "range" p2) [a, b] [] pos2] [] pos) (dListRg2 fa fb) := by
  obtain ⟨ta, ha, sa⟩ := ha
  obtain ⟨tb, hb, sb⟩ := hb
  refine ⟨_, pe_listRg g.calm hg hm (prg_2 hg2 hm2 ha hb na nb hp2) na2, fun G F e σ H d e' Q rep hf q => ?_⟩
  unfold dListRg2 at hf
  simp only [Option.bind_eq_some_iff] at hf
  obtain ⟨⟨ra, e1⟩, h1, ⟨rb, e2⟩, h2, h3⟩ := hf
  cases ra with
  | slot i => cases h3
  | dat d0 => cases rb with
    | slot i => cases d0 <;> cases h3
    | dat d1 => cases d0 with
      | int m => cases d1 with
        | int n =>
          simp only at h3
          split at h3
          · rename_i hl
            cases h3
            refine sa G F e σ H _ _ _ rep h1 fun v F1 H1 rep1 s1 a1 => sb G F1 _ σ H1 _ _ _ rep1 h2 fun u F2 H2 rep2 s2 a2 => ⟨m, n, at_int a1, at_int a2, rgLim_ok hl, fun r hr => ?_⟩
            obtain ⟨r1, f1⟩ := rep2.new hr (Own.lst (rgV_at (K := K) (F := F2) m n))
            exact q r F2 _ r1 (s1.trans s2) f1
          · cases h3
        | _ => cases h3
      | _ => cases h3
end
/-! ### the law's end -/
abbrev scr (ns : List Int) : D := .dict [(.none, .list (ns.map .int))]
theorem spF_law {K : PySem.W.Frag} {f : List D → Option (D × List D)} (h : ∀ ns : List Int, ns.length ≤ 63 → ∃ o, f [scr ns] = some (.bool true, o)) (H : Hp) (a : Addr) (ns : List Int) (hl : ns.length ≤ 63) (hS : SqL K H a (ns.map V.int)) :
    spF K [false] f [.ref a] H (fun v _ => v = .bl true) fun _ _ _ => False := by
  obtain ⟨o, ho⟩ := h ns hl
  exact ⟨H, [scr ns], .bool true, o, .refl _, .dat (.scr hS (atL_ints ns)) .nil, List.nodup_nil, ho, fun w F' H' _ _ _ _ aw _ => at_bool aw⟩
theorem cal_end {P : Program} {w : World} {K : PySem.W.Frag} {mg : Str → Option Value} {base : Heap} {x : Str} {k : Nat} {ps : List Str} {ms : List Bool} {f : List D → Option (D × List D)} (c : Cal P w K mg base x k ps ms f) {a : Addr} {fd : FuncData} {oc : Value} {od : Option Addr} {sl : Array (Option Value)}
    (hg : mg x = some (.ref a)) (lk : K.lookup a = some ⟨oc, od, .func fd, sl⟩) : FnOk P w K mg base CX0 k a fd ps (spF K ms f) := by
  obtain ⟨a', fd', F, h1, h2, h3, oc', od', sl', h4⟩ := c.ex
  rw [hg] at h1
  cases h1
  rw [lk] at h4
  cases h4
  exact F
end HD

/-! comprehensions of two sources -/
namespace HD
open PySem PySem.Spec PyProof.Rows L2
theorem wipe_in {τ : St} {j : Nat} : ∀ {ws : List Nat}, j ∈ ws → (L2.wipe τ ws)[j]? = if j < τ.length then some none else none
  | [], h => by cases h
  | w :: ws, h => by
    unfold L2.wipe
    by_cases hw : w = j
    · subst hw
      by_cases hlt' : w < τ.length
      · rw [List.getElem?_set_self (by rw [wipe_length]; exact hlt'), if_pos hlt']
      · rw [List.getElem?_eq_none_iff.mpr (by rw [List.length_set, wipe_length]; omega), if_neg hlt']
    · rw [List.getElem?_set_ne hw]
      exact wipe_in (by rcases List.mem_cons.mp h with z | z; exact (hw z.symm).elim; exact z)
theorem wipe_off {σ σ4 : St} {vs ws : List Nat} (off : offS ws (L2.wipe σ vs) σ4) (hws : ∀ i ∈ ws, i ∈ vs) : L2.wipe σ4 vs = L2.wipe σ vs := by
  apply List.ext_getElem?
  intro j
  by_cases hm : j ∈ vs
  · rw [wipe_in hm, wipe_in hm, off.1, wipe_length]
  · rw [wipe_out hm, off.2 j (fun z => hm (hws j z))]
theorem wipe_wipe {σ : St} {vs ws : List Nat} (hws : ∀ i ∈ ws, i ∈ vs) : L2.wipe (L2.wipe σ ws) vs = L2.wipe σ vs := by
  apply List.ext_getElem?
  intro j
  by_cases hm : j ∈ vs
  · rw [wipe_in hm, wipe_in hm, wipe_length]
  · rw [wipe_out hm, wipe_out hm, wipe_out (fun z => hm (hws j z))]
def dLc2Go (g : GD) (c : TD) (fi1 : ID) (g1 : GD) (c1 : TD) (el : XD) (vs vs1 : List Nat) : List D → Env → Option (List D × Env)
  | [], e => some ([], e)
  | d :: ds, e => (g d e).bind fun e1 => (c e1).bind fun p => if p.1 = true then
      (fi1 p.2).bind fun q => (wipeC vs1 q.2).bind fun e4 => (dLcGo g1 c1 el vs1 q.1 e4).bind fun r => (wipeC vs r.2).bind fun e5 => (dLc2Go g c fi1 g1 c1 el vs vs1 ds e5).map fun s => (r.1 ++ s.1, s.2)
    else (wipeC vs p.2).bind fun e5 => dLc2Go g c fi1 g1 c1 el vs vs1 ds e5
def dLc2 (fi : ID) (g : GD) (c : TD) (fi1 : ID) (g1 : GD) (c1 : TD) (el : XD) (vs vs1 : List Nat) : ND := fun e => (fi e).bind fun p =>
  (wipeC vs p.2).bind fun e1 => (dLc2Go g c fi1 g1 c1 el vs vs1 p.1 e1).bind fun r => if r.1.length ≤ 16777216 then some (.list r.1, unwE p.2 vs r.2) else none
section
variable {X : Cx} {K : PySem.W.Frag} {k : Nat} {vs vs1 : List Nat}
theorem sem_lc2 {wi wi1 : TI} {g g1 : TG} {tt tt1 : TT} {te : TE} {fi fi1 : ID} {gd gd1 : GD} {fc fc1 : TD} {el : XD} {ws ws1 : List Nat} (si : SemI K wi fi) (sg : SemG K ws g gd) (st : SemT K tt fc) (si1 : SemI K wi1 fi1) (sg1 : SemG K ws1 g1 gd1) (st1 : SemT K tt1 fc1) (se : SemE K te el)
    (hws : ∀ i ∈ ws, i ∈ vs) (hws1 : ∀ i ∈ ws1, i ∈ vs1) (hv : ∀ i ∈ vs1, i ∈ vs) : SemN K (tLc2 wi g tt wi1 g1 tt1 te vs vs1) (dLc2 fi gd fc fi1 gd1 fc1 el vs vs1) := by
  intro G F e σ H d e' Q rep hf q
  unfold dLc2 at hf
  simp only [Option.bind_eq_some_iff] at hf
  obtain ⟨⟨ds, e1⟩, h1, e2, h2, ⟨zs, e3⟩, h3, hf⟩ := hf
  split at hf
  · rename_i hlen
    replace hlen : zs.length ≤ 16777216 := hlen
    cases hf
    refine si G F e σ H ds e1 _ rep h1 fun J F1 H1 rep1 ss1 itd D hD => ?_
    have repw := rep1.wipe h2
    obtain ⟨repp, hF0, hads, hH0⟩ := repw.pin (o := .lst []) hD
    refine ⟨fun i m H => ∃ F2 ex acc dacc rest, Rep K (G.pin D (.lst acc)) F2 ex (L2.wipe σ vs) H ∧ Same F1 F2 ∧ AtL K F2 acc dacc ∧ dLc2Go gd fc fi1 gd1 fc1 el vs vs1 (ds.drop i) ex = some (rest, e3) ∧ zs = dacc ++ rest ∧ m = ds.length - i,
      ⟨_, F1, e2, [], [], zs, repp, .refl _, .nil, h3, rfl, rfl⟩, ?_⟩
    rintro i m H2 ⟨F2, ex, acc, dacc, rest, rep2, ss2, al, hgo, hz, rfl⟩
    cases hd : ds.drop i with
    | nil =>
      rw [hd] at hgo
      cases hgo
      have hle : ds.length ≤ i := by simpa using hd
      obtain ⟨r1, f1⟩ := rep2.freshPin hH0 hF0 hads (Own.lst al)
      refine .inl ⟨itd.stop i F2 H2 ss2 rep2.sub hle, ?_⟩
      have r2 := rep1.unw h2 r1 ss2
      rw [List.append_nil] at hz
      subst hz
      refine q D F2 H2 r2 (ss1.trans ss2) ⟨f1.ob, f1.f, f1.h0, fun j c d' hj hc hs => ?_⟩
      obtain ⟨p', o2, q1, q2, q3, q4, q5, q6⟩ := r2.own j c d' hj hc
      rw [hs] at q1
      cases q1
      have hl : e3.length = e1.length := by rw [r1.len, wipe_length, rep1.len]
      rw [unwE_get e1 vs e3 hl] at hj
      by_cases hm : j ∈ vs
      · rw [if_pos hm] at hj
        obtain ⟨c', g1, g2⟩ := wipeC_in h2 j hm
        rw [hj] at g1; cases g1; rw [hc] at g2; cases g2
      · rw [if_neg hm] at hj
        exact f1.ne j c d' hj hc (by rw [wipe_out hm]; exact hs)
    | cons d r =>
      obtain ⟨hdi, hdr⟩ := drop_cons hd
      have hlt : i < ds.length := (List.getElem?_eq_some_iff.mp hdi).1
      rw [hd] at hgo
      simp only [dLc2Go, Option.bind_eq_some_iff] at hgo
      obtain ⟨e4, h4, ⟨b, e5⟩, h5, hgo⟩ := hgo
      refine .inr ⟨itd.go i d F2 H2 ss2 rep2.sub hdi, fun H => ∃ F2 ex acc dacc rest, Rep K (G.pin D (.lst acc)) F2 ex (L2.wipe σ vs) H ∧ Same F1 F2 ∧ AtL K F2 acc dacc ∧ dLc2Go gd fc fi1 gd1 fc1 el vs vs1 (ds.drop (i + 1)) ex = some (rest, e3) ∧ zs = dacc ++ rest, ?_, fun x H' hy => ?_⟩
      · rintro H' ⟨F', ex', acc', dacc', rest', r1, r2, r3, r4, r5⟩
        exact ⟨ds.length - (i + 1), by omega, F', ex', acc', dacc', rest', r1, r2, r3, r4, r5, rfl⟩
      · obtain ⟨F3, ad, ax⟩ := itd.yld i d F2 H2 x H' ss2 rep2.sub hdi hy
        refine sg _ F3 ex _ H' x d e4 _ (rep2.adds ad) ax h4 fun σ4 F4 H4 rep4 ss4 off => ?_
        have hwp : L2.wipe σ4 vs = L2.wipe σ vs := wipe_off off hws
        refine ⟨hwp, st _ F4 e4 σ4 H4 b e5 _ rep4 h5 fun F5 H5 rep5 ss5 => ?_⟩
        have s15 : Same F2 F5 := ad.ff.trans (ss4.trans ss5)
        cases b with
        | true =>
          simp only [if_true, Option.bind_eq_some_iff, Option.map_eq_some_iff] at hgo
          obtain ⟨⟨ds1, e6⟩, h6, e7, h7, ⟨zs1, e8⟩, h8, e9, h9, ⟨rest', e10⟩, h10, hgo⟩ := hgo
          cases hgo
          refine iteT (si1 _ F5 e5 σ4 H5 ds1 e6 _ rep5 h6 fun J1 F6 H6 rep6 ss6 itd1 => ?_)
          have rep7 := rep6.wipe h7
          refine ⟨fun j k H => ∃ F7 ex acc' dacc' rest1, Rep K (G.pin D (.lst acc')) F7 ex (L2.wipe σ4 vs1) H ∧ Same F6 F7 ∧ AtL K F7 acc' dacc' ∧ dLcGo gd1 fc1 el vs1 (ds1.drop j) ex = some (rest1, e8) ∧ dacc ++ zs1 = dacc' ++ rest1 ∧ k = ds1.length - j,
            ⟨_, F6, e7, acc, dacc, zs1, rep7, .refl _, al.mono (s15.trans ss6), h8, rfl, rfl⟩, ?_⟩
          rintro j k H7 ⟨F7, ex1, acc1, dacc1, rest1, rep7, ss7, al1, hgo1, hz1, rfl⟩
          have s17 : Same F1 F7 := ss2.trans (s15.trans (ss6.trans ss7))
          cases hd1 : ds1.drop j with
          | nil =>
            rw [hd1] at hgo1
            cases hgo1
            have hle : ds1.length ≤ j := by simpa using hd1
            refine .inl ⟨itd1.stop j F7 H7 ss7 rep7.sub hle, ?_⟩
            have rep8 := rep7.wipe h9
            rw [wipe_wipe hv, hwp] at rep8
            rw [List.append_nil] at hz1
            refine ⟨F7, e9, acc1, dacc1, rest', rep8, s17, al1, by rw [hdr]; exact h10, ?_⟩
            rw [hz, ← hz1, List.append_assoc]
          | cons d1 r1 =>
            obtain ⟨hdi1, hdr1⟩ := drop_cons hd1
            have hlt1 : j < ds1.length := (List.getElem?_eq_some_iff.mp hdi1).1
            rw [hd1] at hgo1
            simp only [dLcGo, Option.bind_eq_some_iff] at hgo1
            obtain ⟨u4, g4, ⟨b1, u5⟩, g5, hgo1⟩ := hgo1
            refine .inr ⟨itd1.go j d1 F7 H7 ss7 rep7.sub hdi1, fun H => ∃ F7 ex acc' dacc' rest1, Rep K (G.pin D (.lst acc')) F7 ex (L2.wipe σ4 vs1) H ∧ Same F6 F7 ∧ AtL K F7 acc' dacc' ∧ dLcGo gd1 fc1 el vs1 (ds1.drop (j + 1)) ex = some (rest1, e8) ∧ dacc ++ zs1 = dacc' ++ rest1, ?_, fun x1 H8 hy1 => ?_⟩
            · rintro H' ⟨F', ex', acc', dacc', rest', r1, r2, r3, r4, r5⟩
              exact ⟨ds1.length - (j + 1), by omega, F', ex', acc', dacc', rest', r1, r2, r3, r4, r5, rfl⟩
            · obtain ⟨F8, ad8, ax8⟩ := itd1.yld j d1 F7 H7 x1 H8 ss7 rep7.sub hdi1 hy1
              refine sg1 _ F8 ex1 _ H8 x1 d1 u4 _ (rep7.adds ad8) ax8 g4 fun σ5 F9 H9 rep9 ss9 off1 => ?_
              have hwp1 : L2.wipe σ5 vs1 = L2.wipe σ4 vs1 := wipe_off off1 hws1
              refine ⟨hwp1, st1 _ F9 u4 σ5 H9 b1 u5 _ rep9 g5 fun F10 H10 rep10 ss10 => ?_⟩
              have s710 : Same F7 F10 := ad8.ff.trans (ss9.trans ss10)
              cases b1 with
              | true =>
                simp only [if_true, Option.bind_eq_some_iff, Option.map_eq_some_iff] at hgo1
                obtain ⟨⟨ry, u6⟩, g6, ⟨y, u7⟩, g7, u8, g8, ⟨rest2, u9⟩, g9, hgo1⟩ := hgo1
                cases hgo1
                refine iteT (se _ F10 u5 σ5 H10 ry u6 _ rep10 g6 fun w F11 H11 rep11 ss11 a11 => ?_)
                obtain ⟨F12, rep12, ss12, a12⟩ := rep11.take a11 g7
                have rep13 := rep12.wipe g8
                rw [hwp1] at rep13
                have hle : dacc1.length + 1 ≤ zs.length := by
                  have e1 := congrArg List.length hz1
                  have e2 := congrArg List.length hz
                  simp only [List.length_append, List.length_cons] at e1 e2
                  omega
                refine ⟨acc1, rep11.pinned hads, by rw [al1.len]; exact lim_lt (by omega), F12, u8, acc1 ++ [w], dacc1 ++ [y], rest2, rep13.repin hF0 hads, ss7.trans (s710.trans (ss11.trans ss12)), (al1.mono (s710.trans (ss11.trans ss12))).app (.cons a12 .nil), ?_, ?_⟩
                · rw [hdr1]; exact g9
                · rw [List.append_assoc]; exact hz1
              | false =>
                simp only [Bool.false_eq_true, if_false, Option.bind_eq_some_iff] at hgo1
                obtain ⟨u8, g8, g9⟩ := hgo1
                have rep13 := rep10.wipe g8
                rw [hwp1] at rep13
                exact iteF ⟨F10, u8, acc1, dacc1, rest1, rep13, ss7.trans s710, al1.mono s710, by rw [hdr1]; exact g9, hz1⟩
        | false =>
          simp only [Bool.false_eq_true, if_false, Option.bind_eq_some_iff] at hgo
          obtain ⟨e8, h8, h9⟩ := hgo
          have rep8 := rep5.wipe h8
          rw [hwp] at rep8
          exact iteF ⟨F5, e8, acc, dacc, rest, rep8, ss2.trans s15, al.mono s15, by rw [hdr]; exact h9, hz⟩
  · cases hf
variable {elt tg iter tg1 iter1 : Expr} {ifs ifs1 : List Expr} {scope : Scope} {own : List (Str × Nat)} {pos spos : Pos} {fi fi1 : ID} {gd gd1 : GD} {fc fc1 : TD} {el : XD} {ws ws1 : List Nat}
theorem pnd_lc2 (g0 : Good X K k) (hi : PId X K tg iter fi) (ok : BlkOk X.N X.env.scope scope own)
    (hg : Blk X scope fun Y => PGd Y K ws tg gd) (ht : Blk X scope fun Y => PTsd Y K ifs fc) (hi1 : Blk X scope fun Y => PId Y K tg1 iter1 fi1) (hg1 : Blk X scope fun Y => PGd Y K ws1 tg1 gd1) (ht1 : Blk X scope fun Y => PTsd Y K ifs1 fc1) (he : Blk X scope fun Y => PEd Y K elt el)
    (hv : ∀ i ∈ vs1, i ∈ own.map (·.2) := by decide) (hws : ∀ i ∈ ws, i ∈ own.map (·.2) := by decide) (hws1 : ∀ i ∈ ws1, i ∈ vs1 := by decide) (hs : ∀ x, foldedSetIterable iter X.env x = pure x := by intro _; rfl) (hs1 : ∀ env x, foldedSetIterable iter1 env x = pure x := by intro _ _; rfl) :
    PNd X K (.ListComp elt [⟨tg, iter, ifs, 0⟩, ⟨tg1, iter1, ifs1, 0⟩] scope pos) (dLc2 fi gd fc fi1 gd1 fc1 el (own.map (·.2)) vs1) := by
  obtain ⟨wi, hi, si⟩ := hi
  exact ⟨_, pe_lc2 g0.calm g0.nd hi ok hv (fun s H C cl fp => (hg s H C cl fp).canon) (fun s H C cl fp => (ht s H C cl fp).canon) (fun s H C cl fp => (hi1 s H C cl fp).canon) (fun s H C cl fp => (hg1 s H C cl fp).canon) (fun s H C cl fp => (ht1 s H C cl fp).canon) (fun s H C cl fp => (he s H C cl fp).canon) hs hs1, sem_lc2 si sem_cG sem_cT sem_cI sem_cG sem_cT sem_cE hws hws1 hv⟩
variable {i : Nat} {y : Str} {py : Pos}
theorem psd_setLc2N (g0 : Good X K k) (hi : PId X K tg iter fi) (ok : BlkOk X.N X.env.scope scope own)
    (hg : Blk X scope fun Y => PGd Y K ws tg gd) (ht : Blk X scope fun Y => PTsd Y K ifs fc) (hi1 : Blk X scope fun Y => PId Y K tg1 iter1 fi1) (hg1 : Blk X scope fun Y => PGd Y K ws1 tg1 gd1) (ht1 : Blk X scope fun Y => PTsd Y K ifs1 fc1) (he : Blk X scope fun Y => PEd Y K elt el)
    (hsw : swapsWith (.ListComp elt [⟨tg, iter, ifs, 0⟩, ⟨tg1, iter1, ifs1, 0⟩] scope pos) (some (.Name y py)) spos.line X.env = pure true) (hy : X.N[i]? = some y := by rfl) (hyl : X.env.scope.names.lookup y = some .local := by rfl)
    (hv : ∀ i ∈ vs1, i ∈ own.map (·.2) := by decide) (hws : ∀ i ∈ ws, i ∈ own.map (·.2) := by decide) (hws1 : ∀ i ∈ ws1, i ∈ vs1 := by decide) (hs : ∀ x, foldedSetIterable iter X.env x = pure x := by intro _; rfl) (hs1 : ∀ env x, foldedSetIterable iter1 env x = pure x := by intro _ _; rfl) :
    PSd X K (.Assign [.Name y py] (.ListComp elt [⟨tg, iter, ifs, 0⟩, ⟨tg1, iter1, ifs1, 0⟩] scope pos) spos) (dSetN i (dLc2 fi gd fc fi1 gd1 fc1 el (own.map (·.2)) vs1)) := by
  obtain ⟨wi, hi, si⟩ := hi
  exact ⟨_, ps_setLc2 g0.calm g0.nd hy hyl hsw hi ok hv (fun s H C cl fp => (hg s H C cl fp).canon) (fun s H C cl fp => (ht s H C cl fp).canon) (fun s H C cl fp => (hi1 s H C cl fp).canon) (fun s H C cl fp => (hg1 s H C cl fp).canon) (fun s H C cl fp => (ht1 s H C cl fp).canon) (fun s H C cl fp => (he s H C cl fp).canon) hs hs1, sem_setN (sem_lc2 si sem_cG sem_cT sem_cI sem_cG sem_cT sem_cE hws hws1 hv)⟩
theorem psd_setLc2 (g0 : Good X K k) (hi : PId X K tg iter fi) (ok : BlkOk X.N X.env.scope scope own)
    (hg : Blk X scope fun Y => PGd Y K ws tg gd) (ht : Blk X scope fun Y => PTsd Y K ifs fc) (hi1 : Blk X scope fun Y => PId Y K tg1 iter1 fi1) (hg1 : Blk X scope fun Y => PGd Y K ws1 tg1 gd1) (ht1 : Blk X scope fun Y => PTsd Y K ifs1 fc1) (he : Blk X scope fun Y => PEd Y K elt el)
    (hsw : swapsWith (.ListComp elt [⟨tg, iter, ifs, 0⟩, ⟨tg1, iter1, ifs1, 0⟩] scope pos) (some (.Name y py)) spos.line X.env = pure true) (hy : X.N[i]? = some y := by rfl) (hyl : X.env.scope.names.lookup y = some .local := by rfl)
    (hv : ∀ i ∈ vs1, i ∈ own.map (·.2) := by decide) (hws : ∀ i ∈ ws, i ∈ own.map (·.2) := by decide) (hws1 : ∀ i ∈ ws1, i ∈ vs1 := by decide) (hs : ∀ x, foldedSetIterable iter X.env x = pure x := by intro _; rfl) (hs1 : ∀ env x, foldedSetIterable iter1 env x = pure x := by intro _ _; rfl) :
    PSd X K (.Assign [.Name y py] (.ListComp elt [⟨tg, iter, ifs, 0⟩, ⟨tg1, iter1, ifs1, 0⟩] scope pos) spos) (dSet i (dN (dLc2 fi gd fc fi1 gd1 fc1 el (own.map (·.2)) vs1))) := by
  obtain ⟨wi, hi, si⟩ := hi
  exact ⟨_, ps_setLc2 g0.calm g0.nd hy hyl hsw hi ok hv (fun s H C cl fp => (hg s H C cl fp).canon) (fun s H C cl fp => (ht s H C cl fp).canon) (fun s H C cl fp => (hi1 s H C cl fp).canon) (fun s H C cl fp => (hg1 s H C cl fp).canon) (fun s H C cl fp => (ht1 s H C cl fp).canon) (fun s H C cl fp => (he s H C cl fp).canon) hs hs1, sem_set (sem_n (sem_lc2 si sem_cG sem_cT sem_cI sem_cG sem_cT sem_cE hws hws1 hv))⟩
end
end HD

/-! methods that change nothing -/
namespace HD
open PySem PySem.Spec PyProof.Rows L2
def isStr : D → Bool
  | .str _ => true
  | _ => false
def isLst : D → Bool
  | .list _ => true
  | _ => false
/-- receiver (of a kind), arguments, answer -/
def dMet (kd : D → Bool) (g : D → List D → Option D) (fo : XD) (fa : AD) : XD := fun e => (fo e).bind fun p => (p.1.get p.2).bind fun x0 => if kd x0 = true then
  (fa p.2).bind fun q => (p.1.get q.2).bind fun x => (gets q.2 q.1).bind fun xs => (g x xs).map fun z => (.dat z, q.2) else none
section
variable {X : Cx} {K : PySem.W.Frag} {k : Nat}
def OpMR (K : PySem.W.Frag) (r : V → List V → Hp → VK → Prop) (g : D → List D → Option D) : Prop := ∀ (F H : Hp) (v : V) (vs : List V) (x : D) (xs : List D) (z : D) (Q : VK), Same F H → Top K F H v x → TopL K F H vs xs → g x xs = some z →
  (∀ w F' H', Adds F H F' H' → At K F' w z → Q w H') → r v vs H Q
def KdOk (T : String) (kd : D → Bool) (K : PySem.W.Frag) : Prop := ∀ (F H : Hp) (v : V) (x : D), Same F H → Top K F H v x → kd x = true → tyV K T v H
theorem kd_str : KdOk "str" isStr K := by
  intro F H v x s t h
  cases x with
  | str a => rw [t.str]; rfl
  | _ => cases h
theorem kd_list : KdOk "list" isLst K := by
  intro F H v x s t h
  cases x with
  | list a => obtain ⟨p, xs, rfl, h1, _⟩ := t.list s; exact .inl ⟨rfl, xs, .of h1⟩
  | _ => cases h
theorem sem_met {T : String} {kd : D → Bool} {r : V → List V → Hp → VK → Prop} {g : D → List D → Option D} {to : TE} {ta : TA} {fo : XD} {fa : AD} (hk : KdOk T kd K) (so : SemE K to fo) (sa : SemA K ta fa) (h : OpMR K r g) : SemE K (tBM K T r to ta) (dMet kd g fo fa) := by
  intro G F e σ H r' e' Q rep hf q
  unfold dMet at hf
  simp only [Option.bind_eq_some_iff] at hf
  obtain ⟨⟨ro, e1⟩, h1, x0, h0, hf⟩ := hf
  split at hf
  · rename_i hkd
    simp only [Option.bind_eq_some_iff, Option.map_eq_some_iff] at hf
    obtain ⟨⟨rs, e2⟩, h2, x, h3, xs, h4, z, h5, hf⟩ := hf
    cases hf
    refine so G F e σ H _ e1 _ rep h1 fun v F1 H1 rep1 s1 a1 => ⟨hk F1 H1 v x0 rep1.sub (a1.top rep1 h0) hkd, sa G F1 e1 σ H1 rs e2 _ rep1 h2 fun vs F2 H2 rep2 s2 hvl a2 => ?_⟩
    refine h F2 H2 v vs x xs z _ rep2.sub (Rep.later a1 rep2 s2 h3) (tops rep2 hvl a2 h4) h5 fun w F3 H3 ad hw => ?_
    exact q w F3 H3 (rep2.adds ad) (s1.trans (s2.trans ad.ff)) hw
  · cases hf
variable {o e : Expr} {es : List Expr} {fo : XD} {fa : AD} {name : Str} {apos cpos : Pos} {id : String} {r : V → List V → Hp → VK → Prop} {g : D → List D → Option D} {T : String} {kd : D → Bool}
theorem ped_met (g0 : Good X K k) (pa : PlainAttrs T) (hk : KdOk T kd K) (slot : Slot T name id) (hty : typeOf (.builtin id) = pure (.type "method_descriptor")) (hm : MtR X id r) (h : OpMR K r g)
    (ho : PEd X K o fo) (ha : PAd X K (e :: es) fa)
    (hbase : attributeBase o name X.env (eval o X.env) = eval o X.env := by rfl)
    (hfew : ((backTo cpos (starEach (e :: es) X.env)).all (fun x => !x.1) && (backToKw cpos (keywordEach [] X.env)).all (fun x => x.1.isSome)
      && decide ((e :: es).length + ([] : List Keyword).length + (if ([] : List Keyword).isEmpty then 0 else 1) < 30)) = true := by rfl)
    (hline : (apos.endLine == cpos.line) = true := by rfl) (hs : starEach (e :: es) X.env = (false, eval e X.env) :: starEach es X.env := by rfl) (hplain : (backTo cpos (starEach es X.env)).any (·.1) = false := by rfl) :
    PEd X K (.Call (.Attribute o name apos) (e :: es) [] cpos) (dMet kd g fo fa) := by
  obtain ⟨to, ho, so⟩ := ho
  obtain ⟨ta, ha, sa⟩ := ha
  have hK := g0.K
  subst hK
  exact ⟨_, pe_bm pa slot hty hm ho ha hbase hfew hline hs hplain, sem_met hk so sa h⟩
theorem ped_met0 (g0 : Good X K k) (pa : PlainAttrs T) (hk : KdOk T kd K) (slot : Slot T name id) (hty : typeOf (.builtin id) = pure (.type "method_descriptor")) (hm : MtR X id r) (h : OpMR K r g)
    (ho : PEd X K o fo)
    (hbase : attributeBase o name X.env (eval o X.env) = eval o X.env := by rfl) (hline : (apos.endLine == cpos.line) = true := by rfl) :
    PEd X K (.Call (.Attribute o name apos) [] [] cpos) (dMet kd g fo dA0) := by
  obtain ⟨to, ho, so⟩ := ho
  have hK := g0.K
  subst hK
  refine ⟨_, pe_bm0 pa slot hty hm ho hbase hline, ?_⟩
  have s0 : SemA X.K tNil dA0 := fun G F e σ H rs e' Q rep hf q => by
    cases hf
    exact q [] F H rep (.refl _) rfl (fun i v r h => by simp at h)
  exact sem_met (ta := tNil) hk so s0 h
/-! ### of texts -/
theorem TopL.nil' {F H : Hp} {vs : List V} (h : TopL K F H vs []) : vs = [] := by cases h; rfl
def S.count : D → List D → Option D
  | .str a, [.str b] => some (.int (Txt.count a b))
  | _, _ => none
theorem s_count : OpMR K (fun x xs H Q => ∃ a b, x = .str a ∧ xs = [.str b] ∧ Q (.int (Txt.count a b)) H) S.count := by
  intro F H v vs x xs z Q s t ts hz q
  unfold S.count at hz
  split at hz
  · cases hz; obtain ⟨u, rfl, h⟩ := ts.one; exact ⟨_, _, t.str, by rw [h.str], q _ F H (.refl s) (.int _)⟩
  · cases hz
def S.find : D → List D → Option D
  | .str a, [.str b] => some (.int (Txt.find a b))
  | _, _ => none
theorem s_find : OpMR K (fun x xs H Q => ∃ a b, x = .str a ∧ xs = [.str b] ∧ Q (.int (Txt.find a b)) H) S.find := by
  intro F H v vs x xs z Q s t ts hz q
  unfold S.find at hz
  split at hz
  · cases hz; obtain ⟨u, rfl, h⟩ := ts.one; exact ⟨_, _, t.str, by rw [h.str], q _ F H (.refl s) (.int _)⟩
  · cases hz
def S.startswith : D → List D → Option D
  | .str a, [.str b] => some (.bool (Txt.startswith a b))
  | _, _ => none
theorem s_startswith : OpMR K (fun x xs H Q => ∃ a b, x = .str a ∧ xs = [.str b] ∧ Q (.bl (Txt.startswith a b)) H) S.startswith := by
  intro F H v vs x xs z Q s t ts hz q
  unfold S.startswith at hz
  split at hz
  · cases hz; obtain ⟨u, rfl, h⟩ := ts.one; exact ⟨_, _, t.str, by rw [h.str], q _ F H (.refl s) (.bl _)⟩
  · cases hz
def S.endswith : D → List D → Option D
  | .str a, [.str b] => some (.bool (Txt.endswith a b))
  | _, _ => none
theorem s_endswith : OpMR K (fun x xs H Q => ∃ a b, x = .str a ∧ xs = [.str b] ∧ Q (.bl (Txt.endswith a b)) H) S.endswith := by
  intro F H v vs x xs z Q s t ts hz q
  unfold S.endswith at hz
  split at hz
  · cases hz; obtain ⟨u, rfl, h⟩ := ts.one; exact ⟨_, _, t.str, by rw [h.str], q _ F H (.refl s) (.bl _)⟩
  · cases hz
/-- the first place, where there is one -/
def S.index : D → List D → Option D
  | .str a, [.str b] => (Builtin.Str.occurrences a b 0 a.length 1).head?.map fun i => .int (i : Nat)
  | _, _ => none
theorem s_index : OpMR K (fun x xs H Q => ∃ a b i rest, x = .str a ∧ xs = [.str b] ∧ Builtin.Str.occurrences a b 0 a.length 1 = i :: rest ∧ Q (.int (i : Nat)) H) S.index := by
  intro F H v vs x xs z Q s t ts hz q
  unfold S.index at hz
  split at hz
  · simp only [Option.map_eq_some_iff] at hz
    obtain ⟨i, h1, rfl⟩ := hz
    obtain ⟨u, rfl, h⟩ := ts.one
    obtain ⟨rest, hr⟩ := List.head?_eq_some_iff.mp h1
    exact ⟨_, _, i, rest, t.str, by rw [h.str], hr, q _ F H (.refl s) (.int _)⟩
  · cases hz
def S.isdigit : D → List D → Option D
  | .str a, [] => some (.bool (Txt.isdigit a))
  | _, _ => none
theorem s_isdigit : OpMR K (fun x xs H Q => ∃ a, x = .str a ∧ xs = [] ∧ True ∧ Q (.bl (Txt.isdigit a)) H) S.isdigit := by
  intro F H v vs x xs z Q s t ts hz q
  unfold S.isdigit at hz
  split at hz
  · cases hz; exact ⟨_, t.str, ts.nil', trivial, q _ F H (.refl s) (.bl _)⟩
  · cases hz
def S.lstrip : D → List D → Option D
  | .str a, [.str b] => if a.length ≤ 16777216 then some (.str (Txt.lstripChars a b)) else none
  | _, _ => none
theorem s_lstrip : OpMR K (fun x xs H Q => ∃ a b, x = .str a ∧ xs = [.str b] ∧ a.length ≤ sizeLine ∧ Q (.str (Txt.lstripChars a b)) H) S.lstrip := by
  intro F H v vs x xs z Q s t ts hz q
  unfold S.lstrip at hz
  split at hz
  · split at hz
    · rename_i hl; cases hz; obtain ⟨u, rfl, h⟩ := ts.one; exact ⟨_, _, t.str, by rw [h.str], lim_le hl, q _ F H (.refl s) (.str _)⟩
    · cases hz
  · cases hz
def S.join : D → List D → Option D
  | .str a, [.list ds] => (strs? ds).bind fun ys => if (ys.map (·.length)).sum + ys.length * a.length ≤ 16777216 then some (.str (Txt.join a ys)) else none
  | .str a, [.tuple ds] => (strs? ds).bind fun ys => if (ys.map (·.length)).sum + ys.length * a.length ≤ 16777216 then some (.str (Txt.join a ys)) else none
  | _, _ => none
theorem s_join : OpMR K (fun x xs H Q => ∃ a p, ∃ ys : List Str, x = .str a ∧ xs = [.ref p] ∧ (SqL K H p (ys.map V.str) ∨ SqT K H p (ys.map V.str)) ∧ (ys.map (·.length)).sum + ys.length * a.length ≤ 16777216 ∧ Q (.str (Txt.join a ys)) H) S.join := by
  intro F H v vs x xs z Q s t ts hz q
  unfold S.join at hz
  split at hz
  · simp only [Option.bind_eq_some_iff] at hz
    obtain ⟨ys, h1, hz⟩ := hz
    split at hz
    · rename_i hl
      cases hz
      obtain ⟨u, rfl, h⟩ := ts.one
      obtain ⟨p, us, rfl, h2, h3⟩ := h.list s
      rw [strs?_some h1] at h3
      rw [h3.strs] at h2
      exact ⟨_, p, ys, t.str, rfl, .inl (.of h2), hl, q _ F H (.refl s) (.str _)⟩
    · cases hz
  · simp only [Option.bind_eq_some_iff] at hz
    obtain ⟨ys, h1, hz⟩ := hz
    split at hz
    · rename_i hl
      cases hz
      obtain ⟨u, rfl, h⟩ := ts.one
      obtain ⟨p, us, rfl, h2, h3⟩ := h.tuple s
      rw [strs?_some h1] at h3
      rw [h3.strs] at h2
      exact ⟨_, p, ys, t.str, rfl, .inr h2, hl, q _ F H (.refl s) (.str _)⟩
    · cases hz
  · cases hz
/-! ### of lists -/
def rCountD (K : PySem.W.Frag) : V → List V → Hp → VK → Prop := fun x xs H Q => ∃ (a : Addr) (y : V) (d : PyData) (ds : List PyData), x = V.ref a ∧ xs = [y] ∧ Dp K H (V.ref a) (.list ds) ∧ Dp K H y d ∧
  SeqAt.shaped (.list ds) = true ∧ SeqAt.shaped d = true ∧ Q (.int (ds.countP (fun z => PyData.eqv z d) : Nat)) H
theorem mt_countD (hu : X.A.units + 65 < cLine) : MtR X "list.count" (rCountD X.K) := by
  intro pins s σ H x xs v us Q I rx rxs h
  obtain ⟨a, y, d, ds, rfl, rfl, hl, hy, sl, sd, q⟩ := h
  cases rx
  cases rxs with
  | cons ry rt =>
    rename_i uy ut
    cases rt
    obtain ⟨bs, r1⟩ := Dp.reads I d y uy hy ry
    have hxs : PyData.canLayAll0 ds = true := SeqAt.canLay_of_shaped sl
    have hroom : X.A.units + 1 + min (PyData.depthAll ds) d.depth < cLine := room_in_shaped sd hu
    cases hl with
    | lst hs ha =>
      obtain ⟨its, rv, ⟨⟨cls, dd, data, sls⟩, n, ho, hc, hdn, hdt⟩, hlen⟩ := I.list hs
      simp only at hc hdt
      subst hc hdt
      obtain ⟨as, h4⟩ := Dp.readsAll I ds _ its ha rv
      have hmap : its.map (SeqAt.readOf s.heap) = ds := SeqAt.readsAll_map ds its as hxs h4
      refine call_meets PySem.F.slot_list_count ⟨_, ho, rfl⟩ PySem.F.entry_list_count (PySem.F.args_list_count_2 _ _)
        (SeqAt.list_countAt a its.toArray n dd sls uy (fun u => PyData.eqv (SeqAt.readOf s.heap u) d)) ⟨ho, SeqAt.items_eqAt (vs := its.toArray) (show ReadsAll s.heap its.toArray.toList ds as from h4) r1 hxs (SeqAt.canLay_of_shaped sd) hroom, ?_⟩
      have ec : its.toArray.toList.countP (fun u => PyData.eqv (SeqAt.readOf s.heap u) d) = ds.countP (fun z => PyData.eqv z d) := by
        rw [← hmap, List.countP_map]; rfl
      refine ⟨.int (ds.countP (fun z => PyData.eqv z d) : Nat), H, I.tok _, ⟨s.toks, ?_⟩, q⟩
      show Value.int _ s.toks = Value.int _ s.toks
      rw [← ec]
theorem mt_countK (g : Good X K k) : MtR X "list.count" (rCountD K) := g.K ▸ mt_countD (by have := g.hu2; omega)
theorem mt_indexK (g : Good X K k) : MtR X "list.index" (rIndexD K) := g.K ▸ mt_indexD (by have := g.hu2; omega)
def L.count : D → List D → Option D
  | .list ds, [x] => if SeqAt.shaped (.list ds) = true ∧ SeqAt.shaped x = true then some (.int (ds.countP (fun z => PyData.eqv z x) : Nat)) else none
  | _, _ => none
theorem l_count : OpMR K (rCountD K) L.count := by
  intro F H v vs x xs z Q s t ts hz q
  unfold L.count at hz
  split at hz
  · split at hz
    · rename_i hc
      cases hz
      obtain ⟨u, rfl, h⟩ := ts.one
      obtain ⟨p, us, rfl, h2, h3⟩ := id (t.list s)
      exact ⟨p, u, _, _, rfl, rfl, (t.whole s).dp (lay_of_shaped hc.1), (h.whole s).dp (lay_of_shaped hc.2), hc.1, hc.2, q _ F H (.refl s) (.int _)⟩
    · cases hz
  · cases hz
def L.index : D → List D → Option D
  | .list ds, [x] => if SeqAt.shaped (.list ds) = true ∧ SeqAt.shaped x = true then (ds.findIdx? (fun z => PyData.eqv z x)).map fun j => .int (j : Nat) else none
  | _, _ => none
theorem l_index : OpMR K (rIndexD K) L.index := by
  intro F H v vs x xs z Q s t ts hz q
  unfold L.index at hz
  split at hz
  · split at hz
    · rename_i hc
      simp only [Option.map_eq_some_iff] at hz
      obtain ⟨j, hj, rfl⟩ := hz
      obtain ⟨u, rfl, h⟩ := ts.one
      obtain ⟨p, us, rfl, h2, h3⟩ := id (t.list s)
      obtain ⟨g1, g2, g3⟩ := List.findIdx?_eq_some_iff_getElem.mp hj
      refine ⟨p, u, _, _, j, _, rfl, rfl, (t.whole s).dp (lay_of_shaped hc.1), (h.whole s).dp (lay_of_shaped hc.2), hc.1, hc.2, List.getElem?_eq_getElem g1, g2, fun m z' hm hz' => ?_, q _ F H (.refl s) (.int _)⟩
      obtain ⟨g4, g5⟩ := List.getElem?_eq_some_iff.mp hz'
      have := g3 m hm
      rw [g5] at this
      simpa using this
    · cases hz
  · cases hz
end
end HD

/-! slices with a step -/
namespace HD
open PySem PySem.Spec PyProof.Rows L2
def pickL {α : Type} (xs : List α) (lo hi st : Option Int) : List α := (sliceRange (sliceBounds lo hi st xs.length).1 (sliceBounds lo hi st xs.length).2.1 (sliceBounds lo hi st xs.length).2.2).filterMap (xs[·]?)
theorem vals_pick {xs : List V} {its : List Value} (r : Vals xs its) : ∀ l : List Nat, Vals (l.filterMap (xs[·]?)) (l.filterMap (its[·]?))
  | [] => .nil
  | i :: l => by
    have ih := vals_pick r l
    cases hx : xs[i]? with
    | none =>
      have : its[i]? = none := by
        rw [List.getElem?_eq_none_iff] at hx ⊢
        rw [← r.length]; exact hx
      rw [List.filterMap_cons_none hx, List.filterMap_cons_none this]
      exact ih
    | some x =>
      obtain ⟨u, hu, ru⟩ := r.get hx
      rw [List.filterMap_cons_some hx, List.filterMap_cons_some hu]
      exact .cons ru ih
theorem atL_pick {K : PySem.W.Frag} {F : Hp} {xs : List V} {ds : List D} (r : AtL K F xs ds) : ∀ l : List Nat, AtL K F (l.filterMap (xs[·]?)) (l.filterMap (ds[·]?))
  | [] => .nil
  | i :: l => by
    have ih := atL_pick r l
    cases hx : ds[i]? with
    | none =>
      have : xs[i]? = none := by
        rw [List.getElem?_eq_none_iff] at hx ⊢
        rw [r.len]; exact hx
      rw [List.filterMap_cons_none hx, List.filterMap_cons_none this]
      exact ih
    | some x =>
      obtain ⟨u, hu, ru⟩ := r.get hx
      rw [List.filterMap_cons_some hx, List.filterMap_cons_some hu]
      exact .cons ru ih
def tSl3 (K : PySem.W.Frag) (te : TE) (tl th ts : TO) : TE := fun σ H Q => te σ H fun x H1 => tl σ H1 fun l H2 => th σ H2 fun u H3 => ts σ H3 fun o H4 => ∃ a xs, x = .ref a ∧ SqL K H4 a xs ∧ o ≠ some 0 ∧ (pickL xs l u o).length ≤ sizeLine ∧ ∀ p, H4 p = none → Q (.ref p) (upd H4 p (.lst (pickL xs l u o)))
section
variable {X : Cx}
theorem pe_sl3 {e : Expr} {te : TE} {lo hi : Option Expr} {st : Expr} {tl th ts : TO} {p3 pos : Pos} (he : PE X e te) (hl : PO X lo tl) (hh : PO X hi th) (hst : PO X (some st) ts) : PE X (.Subscript e (.Slice lo hi (some st) p3) pos) (tSl3 X.K te tl th ts) := by
  refine ⟨fun pins s σ H Q I h => ?_⟩
  refine Subscript_ (thn (he.run pins s σ H _ I h) fun v s1 ⟨x, H1, I1, r1, q1⟩ => ?_)
  refine wpAny_Slice (thn (hl.run pins s1 σ H1 _ I1 q1) fun vl s2 ⟨l, H2, I2, pl, q2⟩ => ?_)
  refine thn (hh.run pins s2 σ H2 _ I2 q2) fun vu s3 ⟨u, H3, I3, pu, q3⟩ => ?_
  refine thn (hst.run pins s3 σ H3 _ I3 q3) fun vs s4 ⟨o, H4, I4, ps, q4⟩ => ?_
  obtain ⟨a, xs, ex, hx, h0, hz2, q⟩ := q4
  subst ex
  cases r1
  have I5 : Inv X pins σ H4 { s4 with heap := s4.heap.push { cls := .type "slice", data := .fields #[vl, vu, vs] } } := I4.kept (t' := s4.toks) fun b ob q => Heap.get?_push_of_some _ q
  obtain ⟨its, r, ht, hz⟩ := I5.list hx
  have hlen := r.length
  show wpAny (model X.prog X.w) X.A (subscriptTail e (.Slice lo hi (some st) p3) (.ref a) (.ref s4.heap.objs.size)) (EP X pins σ Q) X.xe { s4 with heap := s4.heap.push { cls := .type "slice", data := .fields #[vl, vu, vs] } }
  refine tail_any (ops := [.ref a, .ref s4.heap.objs.size]) ht.isList.typeIs (PySem.slot_list_getitem.lookup) ?_ (by with_unfolding_all rfl)
  have hp : ∃ L : List Value, slicePick its.toArray l u o = L.toArray ∧ Vals (pickL xs l u o) L := by
    have e1 : its.toArray.size = xs.length := by rw [List.size_toArray]; exact hlen.symm
    refine ⟨_, rfl, ?_⟩
    unfold pickL
    rw [e1]
    have := vals_pick r (sliceRange (sliceBounds l u o xs.length).1 (sliceBounds l u o xs.length).2.1 (sliceBounds l u o xs.length).2.2)
    simpa using this
  obtain ⟨L, eL, hp⟩ := hp
  refine wpAny_getItem_list_slice ht.isList (Heap.IsSliceOf.new _ vl vu vs) pl pu ps h0 ?_ (by rw [List.size_toArray]; omega)
  rw [eL]
  refine ⟨.ref _, _, I5.laid (t' := s4.toks) (o := .lst (pickL xs l u o)) (fun b ob q => Heap.get?_push_of_some _ q) (Nat.le_refl _) ?_, rfl, q _ (I5.hok.fresh (Nat.le_refl _))⟩
  exact ⟨hz2, _, 0, hp, Heap.get?_push_size _ rfl⟩
end
theorem pickL_len {α β : Type} {xs : List α} {ys : List β} (h : xs.length = ys.length) (lo hi st : Option Int) : (pickL xs lo hi st).length = (pickL ys lo hi st).length := by
  unfold pickL
  rw [h]
  generalize sliceRange _ _ _ = l
  induction l with
  | nil => rfl
  | cons i l ih =>
    cases hx : xs[i]? with
    | none =>
      have : ys[i]? = none := by rw [List.getElem?_eq_none_iff] at hx ⊢; omega
      rw [List.filterMap_cons_none hx, List.filterMap_cons_none this, ih]
    | some x =>
      have hlt := (List.getElem?_eq_some_iff.mp hx).1
      rw [List.filterMap_cons_some hx, List.filterMap_cons_some (List.getElem?_eq_getElem (show i < ys.length by omega)), List.length_cons, List.length_cons, ih]
def dSl3N (a : XD) (l h s : Env → Option (Option Int × Env)) : ND := fun e => (a e).bind fun p => (l p.2).bind fun q => (h q.2).bind fun r => (s r.2).bind fun t => (p.1.get t.2).bind fun x => match x with
  | .list ds => if t.1 ≠ some 0 ∧ (pickL ds q.1 r.1 t.1).length ≤ 16777216 then some (.list (pickL ds q.1 r.1 t.1), t.2) else none
  | _ => none
section
variable {X : Cx} {K : PySem.W.Frag} {k : Nat} {a st : Expr} {lo hi : Option Expr} {fa : XD} {fl fh fs : Env → Option (Option Int × Env)} {pos p3 : Pos}
theorem pnd_sl3 (g : Good X K k) (ha : PEd X K a fa) (hl : POd X K lo fl) (hh : POd X K hi fh) (hs : POd X K (some st) fs) : PNd X K (.Subscript a (.Slice lo hi (some st) p3) pos) (dSl3N fa fl fh fs) := by
  obtain ⟨ta, ha, sa⟩ := ha
  obtain ⟨tl, hl, sl⟩ := hl
  obtain ⟨th, hh, sh⟩ := hh
  obtain ⟨ts, hs, ss⟩ := hs
  have hK := g.K
  subst hK
  refine ⟨_, pe_sl3 ha hl hh hs, fun G F e σ H d e' Q rep hf q => ?_⟩
  unfold dSl3N at hf
  simp only [Option.bind_eq_some_iff] at hf
  obtain ⟨⟨ra, e1⟩, h1, ⟨ol, e2⟩, h2, ⟨oh, e3⟩, h3, ⟨os, e4⟩, h4, x, h5, hf⟩ := hf
  refine sa G F e σ H ra e1 _ rep h1 fun v F1 H1 rep1 s1 a1 => sl G F1 e1 σ H1 ol e2 _ rep1 h2 fun F2 H2 rep2 s2 => sh G F2 e2 σ H2 oh e3 _ rep2 h3 fun F3 H3 rep3 s3 => ss G F3 e3 σ H3 os e4 _ rep3 h4 fun F4 H4 rep4 s4 => ?_
  have tp := Rep.later a1 rep4 (s2.trans (s3.trans s4)) h5
  cases x with
  | list ds =>
    simp only at hf
    split at hf
    · rename_i hc
      cases hf
      obtain ⟨p, xs, rfl, b1, b2⟩ := tp.list rep4.sub
      refine ⟨p, xs, rfl, .of b1, hc.1, by rw [pickL_len b2.len]; exact lim_le hc.2, fun r hr => ?_⟩
      have hb : AtL X.K F4 (pickL xs ol oh os) (pickL ds ol oh os) := by
        unfold pickL
        rw [b2.len]
        exact atL_pick b2 _
      obtain ⟨r1, f1⟩ := rep4.new hr (Own.lst hb)
      exact q r F4 _ r1 (s1.trans (s2.trans (s3.trans s4))) f1
    · cases hf
  | _ => simp at hf
end
end HD

/-! a def that hands back a new object of its own -/
namespace HD
open PySem PySem.Spec PyProof.Rows L2 RT
section
variable {X : Cx} {K : PySem.W.Frag} {k : Nat} {ex : Expr} {pos p : Pos} {g : ND}
def dRetO (g : ND) : SD := fun e => (g e).map fun p => .ro p.1 p.2
theorem psd_retO (h : PNd X K ex g) : PSd X K (.Return (some ex) pos) (dRetO g) := by
  obtain ⟨t1, h, s⟩ := h
  refine ⟨_, ps_ret h, fun G F e σ H o Dn rep hf q => ?_⟩
  unfold dRetO at hf
  simp only [Option.map_eq_some_iff] at hf
  obtain ⟨⟨d, e1⟩, hf1, rfl⟩ := hf
  exact s G F e σ H d e1 _ rep hf1 fun p F1 H1 rep1 ss fr => q p σ F1 H1 rep1 ss fr
/-- an own object that the frame lets go of -/
theorem Rep.letgo {G : Gd} {F H : Hp} {e : Env} {σ : St} {i : Nat} {d : D} (rep : Rep K G F e σ H) (h : e[i]? = some (.own d)) : ∃ p, σ[i]? = some (some (.ref p)) ∧ Rep K G F (e.set i .un) σ H ∧ Fresh K G F (e.set i .un) σ H p d := by
  obtain ⟨p, o, h1, h2, h3, h4, h5, _⟩ := rep.own i _ d h rfl
  have hlt : i < e.length := (List.getElem?_eq_some_iff.mp h).1
  have low : ∀ {j : Nat} {c : Cell}, (e.set i .un)[j]? = some c → c ≠ .un → i ≠ j ∧ e[j]? = some c := by
    intro j c hc hn
    by_cases e1 : i = j
    · subst e1; rw [List.getElem?_set_self hlt] at hc; cases hc; exact (hn rfl).elim
    · rw [List.getElem?_set_ne e1] at hc; exact ⟨e1, hc⟩
  refine ⟨p, h1, ⟨rep.sub, rep.sub0, rep.fr, rep.frame, by rw [List.length_set]; exact rep.len, fun j d' hj => rep.dat j d' (low hj (by intro z; cases z)).2, fun j c d' hj hc => rep.own j c d' (low hj (by intro z; subst z; cases hc)).2 hc, fun j j' c c' d1 d2 q hj hc hj' hc' => rep.sep j j' c c' d1 d2 q (low hj (by intro z; subst z; cases hc)).2 hc (low hj' (by intro z; subst z; cases hc')).2 hc', fun q hq => ?_⟩, ⟨o, h2, h3⟩, h4, h5 ⟨d, rfl⟩, fun j c d' hj hc hs => ?_⟩
  · obtain ⟨q1, d', q2⟩ := rep.io q hq
    refine ⟨q1, d', ?_⟩
    rw [List.getElem?_set_ne (by intro z; rw [← z, h] at q2; cases q2)]
    exact q2
  · obtain ⟨ne, hj'⟩ := low hj (by intro z; subst z; cases hc)
    exact ne (rep.sep i j _ c d d' p h rfl hj' hc h1 hs)
def dRetV (i : Nat) : SD := fun e => match e[i]? with
  | some (.own d) => some (.ro d (e.set i .un))
  | _ => none
theorem psd_retV {i : Nat} {x : Str} {pos2 : Pos} (hN : X.N[i]? = some x := by rfl) (hv : Vis X.env.scope x := by first | exact Or.inl rfl | exact Or.inr (Or.inl rfl) | exact Or.inr (Or.inr rfl)) (hd : (x == ("__debug__" : Str)) = false := by decide)
    (hcd : (x == ("__classdict__" : Str)) = false := by decide) : PSd X K (.Return (some (.Name x pos2)) pos) (dRetV i) := by
  refine ⟨_, ps_ret (pe_var hN hv hd hcd), fun G F e σ H o Dn rep hf q => ?_⟩
  unfold dRetV at hf
  split at hf
  · rename_i d hd'
    cases hf
    obtain ⟨p, h1, rep1, fr⟩ := rep.letgo hd'
    exact ⟨_, h1, q p σ F H rep1 (.refl _) fr⟩
  · cases hf
end
def spO (K : PySem.W.Frag) (ms : List Bool) (f : List D → Option (D × List D)) : Sp := fun vs H Q _ => ∃ F ds z outs, Same F H ∧ ArgsAt K F H ms vs ds ∧ (ioOf ms vs).Nodup ∧ f ds = some (z, outs) ∧
  ∀ p F' H', (∀ b x, H b = some x → b ∉ ioOf ms vs → H' b = some x) → Same F F' → Same F' H' → (∀ b x, F' b = some x → F b = some x ∨ H b = none) → (∃ o, H' p = some o ∧ Own K F' o z) → F' p = none → H p = none → OutsAt K F' H' (ioOf ms vs) outs → Q (.ref p) H'
def dFnO (n : Nat) (ms : List Bool) (body : SD) : List D → Option (D × List D) := fun ds => (initE ms ds).bind fun e => (body (e ++ List.replicate (n - ms.length) .un)).bind fun o => match o with
  | .ro d e' => (outsE e' 0 ms).map fun os => (d, os)
  | _ => none
structure CalO (P : Program) (w : World) (K : PySem.W.Frag) (mg : Str → Option Value) (base : Heap) (x : Str) (k : Nat) (ps : List Str) (ms : List Bool) (f : List D → Option (D × List D)) : Prop where
  ex : ∃ a fd, FnOk P w K mg base CX0 k a fd ps (spO K ms f) ∧ mg x = some (.ref a) ∧ PySem.W.keepIn K (.ref a) = true ∧ Binds K fd ps [] ∧ ∃ oc od osl, K.lookup a = some ⟨oc, od, .func fd, osl⟩
section
variable {P : Program} {w : World} {K : PySem.W.Frag} {mg : Str → Option Value} {base : Heap} {x : Str}
theorem fnO_ok {qual : Str} {st : Stmt} {f : Addr} {fd : FuncData} {N ps : List Str} {k : Nat} {ms : List Bool} {body : SD} (F : Fun K x qual st f fd) (S : FnScope N ps (defScope st)) (hm : ms.length = ps.length) (hN : ps.length ≤ N.length)
    (hb : ∀ (cdv : Value) (A : Around) (outer : List PySem.Env) (s : Shared) (H : Hp) (E : XK), Good (bodyX P w K mg base N qual st f cdv A outer s H E) K k → PSsd (bodyX P w K mg base N qual st f cdv A outer s H E) K (defBody st) body) :
    FnOk P w K mg base CX0 (k + 1) f fd ps (spO K ms (dFnO N.length ms body)) := by
  refine F.ok S (fun vs H Q E h => ?_) (fun cdv A outer s H vs Q E hr h => ?_)
  · obtain ⟨F0, ds, z, outs, _, ha, _⟩ := h
    rw [ha.len.1, hm]
  · obtain ⟨F0, ds, z, outs, hs, ha, hnd, hf, q⟩ := h
    obtain ⟨t, ht, st'⟩ := hb cdv A outer s H E ⟨rfl, rfl, S.nd, hr⟩
    refine ⟨t, ht, ?_⟩
    unfold dFnO at hf
    simp only [Option.bind_eq_some_iff] at hf
    obtain ⟨e, he, o, ho, hf⟩ := hf
    have rep := rep_start (N := N) hs ha hnd he (by omega)
    refine st' _ F0 _ _ H o _ rep ho ?_
    cases o with
    | ro d e' =>
      simp only [Option.map_eq_some_iff] at hf
      obtain ⟨os, h1, h2⟩ := hf
      cases h2
      intro p σ F' H' r1 ss fr
      refine q p F' H' (fun b x hb hn => r1.frame b x hb ?_) ss r1.sub r1.fr fr.ob fr.f fr.h0 (outs_at r1 0 ha.len.1 (fun j p hm hv => ?_) ha.ref h1)
      · show b ∉ (ioSlots 0 ms vs).map (·.2)
        rw [ioSlots_snd]; exact hn
      · have := ha.inSlots 0 j p hm hv
        rw [Nat.zero_add] at this ⊢
        exact (r1.io _ this).1
    | nx e' => cases hf
    | rt d e' => cases hf
    | bk e' => cases hf
    | ct e' => cases hf
theorem mk_calO {st : Stmt} {N ps : List Str} {k n : Nat} {ms : List Bool} {body : SD} (d : Def K mg x st ps) (S : FnScope N ps (defScope st)) (hn : N.length = n) (hm : ms.length = ps.length) (hN : ps.length ≤ N.length)
    (hb : ∀ (f : Addr) (cdv : Value) (A : Around) (outer : List PySem.Env) (s : Shared) (H : Hp) (E : XK), Good (bodyX P w K mg base N x st f cdv A outer s H E) K k → PSsd (bodyX P w K mg base N x st f cdv A outer s H E) K (defBody st) body) :
    CalO P w K mg base x (k + 1) ps ms (dFnO n ms body) := by
  subst hn
  obtain ⟨a, fd, F, hg, hbd⟩ := d.ex
  exact ⟨a, fd, fnO_ok F S hm hN (hb a), hg, F.kp, hbd, Fun.look F⟩
/-- what is new may be taken as data -/
theorem CalO.cal {k : Nat} {ps : List Str} {ms : List Bool} {f : List D → Option (D × List D)} (c : CalO P w K mg base x k ps ms f) : Cal P w K mg base x k ps ms f := by
  obtain ⟨a, fd, F, h1, h2, h3, h4⟩ := c.ex
  refine ⟨a, fd, F.imp fun vs H Q E ⟨F0, ds, z, outs, g1, g2, g3, g4, g5⟩ => ⟨F0, ds, z, outs, g1, g2, g3, g4, fun p F' H' keep s1 s2 nw ⟨o, o1, o2⟩ fp hp outs' => ?_⟩, h1, h2, h3, h4⟩
  have hs : Same F' (upd F' p o) := same_upd fp
  have hpo : p ∉ ioOf ms vs := fun hm => by
    have key : ∀ {ms : List Bool} {vs : List V} {ds : List D}, ArgsAt K F0 H ms vs ds → p ∈ ioOf ms vs → ∃ o, H p = some o := by
      intro ms vs ds a
      induction a with
      | nil => intro h; simp [ioOf] at h
      | dat _ _ ih => intro h; exact ih (by simpa [ioOf] using h)
      | io q1 _ _ _ ih =>
        intro h
        simp only [ioOf, List.mem_cons] at h
        rcases h with rfl | h
        · exact ⟨_, q1⟩
        · exact ih h
    obtain ⟨o', ho'⟩ := key g2 hm
    rw [hp] at ho'; cases ho'
  refine g5 (.ref p) (upd F' p o) H' keep (s1.trans hs) (fun b x hb => ?_) (fun b x hb => ?_) ((o2.mono hs).at upd_same) ?_
  · rcases upd_some hb with ⟨rfl, rfl⟩ | ⟨ne, hb⟩
    · exact o1
    · exact s2 b x hb
  · rcases upd_some hb with ⟨rfl, rfl⟩ | ⟨ne, hb⟩
    · exact .inr hp
    · exact nw b x hb
  · have key : ∀ {as : List Addr} {os : List D}, p ∉ as → OutsAt K F' H' as os → OutsAt K (upd F' p o) H' as os := by
      intro as
      induction as with
      | nil => intro os _ h; cases os with
        | nil => trivial
        | cons _ _ => exact h.elim
      | cons a as ih => intro os hn h; cases os with
        | nil => exact h.elim
        | cons d os =>
          obtain ⟨⟨o3, q1, q2, q3⟩, q4⟩ := h
          have hne : a ≠ p := fun z => hn (by simp [z])
          exact ⟨⟨o3, q1, q2.mono hs, by rw [upd_ne hne]; exact q3⟩, ih (fun z => hn (by simp [z])) q4⟩
    exact key hpo outs'
end
/-- a call whose answer is an own object of the caller's from then on -/
def dCallO (ms : List Bool) (f : List D → Option (D × List D)) (fa : AD) : ND := fun e => (fa e).bind fun p => (argsT ms p.1 p.2).bind fun a => if (slotsT ms p.1).Nodup then
  (f a.1).bind fun z => (putT (slotsT ms p.1) z.2 a.2).map fun e' => (z.1, e') else none
section
variable {X : Cx} {K : PySem.W.Frag} {k j : Nat} {a : Expr} {es : List Expr} {fa : AD} {ps : List Str} {ms : List Bool} {Ff : List D → Option (D × List D)} {x : Str} {p pos : Pos}
theorem putT_held : ∀ {is : List Nat} {ds : List D} {e e' : Env}, putT is ds e = some e' → ∀ (j : Nat) (c : Cell) (d : D), e'[j]? = some c → c.held = some d → ∃ c' d', e[j]? = some c' ∧ c'.held = some d'
  | [], [], e, e', h, j, c, d, hj, hc => by cases h; exact ⟨c, d, hj, hc⟩
  | i :: is, d0 :: ds, e, e', h, j, c, d, hj, hc => by
    simp only [putT, Option.bind_eq_some_iff] at h
    obtain ⟨e1, h1, h2⟩ := h
    obtain ⟨c1, d1, g1, g2⟩ := putT_held h2 j c d hj hc
    obtain ⟨c2, d2, c3, q1, q2, rfl, q4, _, _⟩ := setH_some h1
    by_cases hij : i = j
    · subst hij; exact ⟨c2, d2, q1, q2⟩
    · rw [List.getElem?_set_ne hij] at g1; exact ⟨c1, d1, g1, g2⟩
  | [], _ :: _, _, _, h, _, _, _, _, _ => by simp [putT] at h
  | _ :: _, [], _, _, h, _, _, _, _, _ => by simp [putT] at h
theorem sem_callO {ta : TA} (sa : SemA K ta fa) : SemN K (tCall (spO K ms Ff) [] E0 ta) (dCallO ms Ff fa) := by
  intro G F e σ H r e' Q rep hf q
  unfold dCallO at hf
  simp only [Option.bind_eq_some_iff] at hf
  obtain ⟨⟨rs, e1⟩, h1, ⟨ds, e2⟩, h2, hf⟩ := hf
  split at hf
  · rename_i hnd
    simp only [Option.bind_eq_some_iff, Option.map_eq_some_iff] at hf
    obtain ⟨⟨z, outs⟩, h3, e3, h4, h5⟩ := hf
    cases h5
    refine sa G F e σ H rs e1 _ rep h1 fun vs F1 H1 rep1 ss1 hl a1 => ?_
    obtain ⟨F2, rep2, ss2, a2, _, as, h5, h6, h7⟩ := argsT_at rep1 hl a1 h2
    rw [List.append_nil]
    have hads : (ioOf ms vs).Nodup := by
      rw [h5]
      unfold List.Nodup at hnd ⊢
      rw [List.pairwise_iff_getElem] at hnd ⊢
      intro i' j' hi hj hij hpp
      have hi' : i' < (slotsT ms rs).length := by omega
      have hj' : j' < (slotsT ms rs).length := by omega
      obtain ⟨s1, c1⟩ := h7 i' _ _ (List.getElem?_eq_getElem hi') (List.getElem?_eq_getElem hi)
      obtain ⟨s2, c2⟩ := h7 j' _ _ (List.getElem?_eq_getElem hj') (List.getElem?_eq_getElem hj)
      rw [hpp] at s1
      obtain ⟨x1, hx1⟩ := Option.isSome_iff_exists.mp c1
      obtain ⟨x2, hx2⟩ := Option.isSome_iff_exists.mp c2
      obtain ⟨c1, hc1, hd1⟩ := cellAt_some hx1
      obtain ⟨c2, hc2, hd2⟩ := cellAt_some hx2
      exact hnd i' j' hi' hj' hij (rep2.sep _ _ c1 c2 x1 x2 _ hc1 hd1 hc2 hd2 s1 s2)
    refine ⟨F2, ds, z, outs, rep2.sub, a2, hads, h3, fun p F3 H3 keep ss3 sub3 nw3 ob fp hp outs3 => ?_⟩
    rw [h5] at keep outs3 hads
    let Hm : Hp := fun b => if b ∈ as then H1 b else H3 b
    have ad : Adds F2 H1 F3 Hm := ⟨ss3, fun b x hb => by
      show (if b ∈ as then H1 b else H3 b) = some x
      by_cases hm : b ∈ as
      · rw [if_pos hm]; exact hb
      · rw [if_neg hm]; exact keep b x hb hm, fun b x hb => by
      show (if b ∈ as then H1 b else H3 b) = some x
      by_cases hm : b ∈ as
      · rw [outs3.none b hm] at hb; cases hb
      · rw [if_neg hm]; exact sub3 b x hb, nw3⟩
    have rep3 := rep2.adds ad
    have rep4 := Rep.puts (H' := H3) rep3 h6 hads (fun j i p hj hp => (h7 j i p hj hp).1) outs3 h4 (fun b hb => by
      show (if b ∈ as then H1 b else H3 b) = H3 b
      rw [if_neg hb])
    refine q p F3 H3 rep4 (ss1.trans (ss2.trans ss3)) ⟨ob, fp, ?_, fun j c d hj hc hs => ?_⟩
    · cases h0 : G.H0 p with
      | none => rfl
      | some y =>
        by_cases hb : p ∈ G.ads
        · obtain ⟨q', hq, rfl⟩ := List.mem_map.mp hb
          obtain ⟨g1, d, g2⟩ := rep2.io q' hq
          obtain ⟨p', o, e1, e2, _⟩ := rep2.own q'.1 _ d g2 rfl
          rw [g1] at e1; cases e1
          rw [hp] at e2; cases e2
        · have := rep2.frame p y h0 hb
          rw [hp] at this; cases this
    · obtain ⟨c', d', g1, g2⟩ := putT_held h4 j c d hj hc
      obtain ⟨p', o, e1, e2, _⟩ := rep2.own j c' d' g1 g2
      rw [hs] at e1; cases e1
      rw [hp] at e2; cases e2
  · cases hf
theorem pnd_calO (g : Good X K k) (c : CalO X.prog X.w X.K X.mg X.base x j ps ms Ff) (hk : j ≤ k) (hg : Gl X x) (ha : PAd X K (a :: es) fa) (hdb : (x == ("__debug__" : Str)) = false := by decide) (he : starEach (a :: es) X.env = (false, eval a X.env) :: starEach es X.env := by rfl) (hpl : (backTo pos (starEach es X.env)).any (·.1) = false := by rfl) :
    PNd X K (.Call (.Name x p) (a :: es) [] pos) (dCallO ms Ff fa) := by
  have hK := g.K
  subst hK
  obtain ⟨ad, fd, F, h1, h2, h3, _⟩ := c.ex
  obtain ⟨t, ha, sa⟩ := ha
  exact ⟨_, pe_call F (g.room.mono hk) hg h1 h2 h3 .nil pass0 ha hdb he hpl, sem_callO sa⟩
theorem dFnO_len {n : Nat} {body : SD} : ∀ ds z, dFnO n ms body ds = some z → ds.length = ms.length := by
  intro ds z h
  unfold dFnO at h
  simp only [Option.bind_eq_some_iff] at h
  obtain ⟨e, he, _⟩ := h
  have : ∀ {ms : List Bool} {ds : List D} {e : Env}, initE ms ds = some e → ds.length = ms.length := by
    intro ms
    induction ms with
    | nil => intro ds e h; cases ds with
      | nil => rfl
      | cons _ _ => cases h
    | cons m ms ih => intro ds e h; cases ds with
      | nil => cases h
      | cons d ds =>
        simp only [initE, Option.map_eq_some_iff] at h
        obtain ⟨e', h1, _⟩ := h
        simp [ih h1]
  exact this he
end
end HD

/-! a text put to the right, filled with a sign -/
namespace HD
open PySem PySem.Spec PyProof.Rows L2
def S.rjust : D → List D → Option D
  | .str a, [.int i, .str f] => if i.natAbs ≤ 100000 ∧ f.length = 1 then some (.str (Txt.rjustF a i (f.cps.getD 0 0))) else none
  | _, _ => none
section
variable {X : Cx} {K : PySem.W.Frag} {k : Nat}
theorem padOk_small {i : Int} (h : i.natAbs ≤ 100000) : PadOk i = true := by
  have h1 : i.toNat ≤ sizeLine := lim_le (by omega)
  have h2 : -(9223372036854775808 : Int) ≤ i := by omega
  have h3 : i < (9223372036854775808 : Int) := by omega
  have h4 : i ≤ (sizeLine : Int) := by omega
  simp [PadOk, fitsSsize, Builtin.Str.tooLong, h2, h3, h4]
theorem mt_rjustF : MtR X "str.rjust" (fun x xs H Q => ∃ (a : Str) (i : Int) (f : Str), x = .str a ∧ xs = [.int i, .str f] ∧ (PadOk i = true ∧ f.length = 1) ∧ Q (.str (Txt.rjustF a i (f.cps.getD 0 0))) H) := by
  intro pins s σ H x xs v us Q I rx rs h
  obtain ⟨a, i, f, rfl, rfl, ⟨hp, hf⟩, h⟩ := h
  obtain ⟨t, rfl⟩ := rx
  obtain _ | ⟨r1, rs⟩ := rs
  obtain _ | ⟨r2, rs⟩ := rs
  obtain _ | _ := rs
  obtain ⟨u, rfl⟩ := r1
  obtain ⟨z, rfl⟩ := r2
  exact rjust_fill hp hf fun t' n => ⟨.str _, H, I.tok n, ⟨t', rfl⟩, h⟩
theorem s_rjust : OpMR K (fun x xs H Q => ∃ (a : Str) (i : Int) (f : Str), x = .str a ∧ xs = [.int i, .str f] ∧ (PadOk i = true ∧ f.length = 1) ∧ Q (.str (Txt.rjustF a i (f.cps.getD 0 0))) H) S.rjust := by
  intro F H v vs x xs z Q s t ts hz q
  unfold S.rjust at hz
  split at hz
  · split at hz
    · rename_i hc
      cases hz
      obtain ⟨u1, u2, rfl, h1, h2⟩ := ts.two
      exact ⟨_, _, _, t.str, by rw [h1.int, h2.str], ⟨padOk_small hc.1, hc.2⟩, q _ F H (.refl s) (.str _)⟩
    · cases hz
  · cases hz
end
end HD
namespace HD
open PySem PySem.Spec PyProof.Rows L2
/-- a text many times -/
def D.mulS : D → D → Option D
  | .str a, .int n => if n.natAbs ≤ 1000000 ∧ a.length * n.toNat ≤ 1000000 then some (.str (Txt.mul a n)) else none
  | _, _ => none
section
variable {X : Cx} {K : PySem.W.Frag} {k : Nat}
theorem mulOk_small {a : Str} {n : Int} (h : n.natAbs ≤ 1000000 ∧ a.length * n.toNat ≤ 1000000) : MulOk a n := by
  obtain ⟨h1, h2⟩ := h
  refine ⟨?_, fun hn _ => ?_, fun hn _ => ?_⟩
  · have h3 : ¬ n < -(9223372036854775808 : Int) := by omega
    have h4 : ¬ n ≥ (9223372036854775808 : Int) := by omega
    simp [h3, h4]
  · have h3 : ((a.length * n.toNat : Nat) : Int) ≤ 1000000 := by omega
    have h4 : ((n.toNat : Nat) : Int) = n := by omega
    have h5 : (a.length : Int) * n ≤ 9223372036854775807 := by rw [← h4, ← Int.natCast_mul]; omega
    have h6 : (a.length : Int) ≤ 9223372036854775807 / n := (Int.le_ediv_iff_mul_le (by omega)).mpr h5
    have h7 : (2 : Int) ^ 63 - 1 = 9223372036854775807 := by decide
    rw [h7]
    omega
  · have h3 : a.length * n.toNat ≤ sizeLine := lim_le (by omega)
    simp only [Builtin.Str.tooLong, decide_eq_false_iff_not]; omega
def rMulS : R2 := fun x y H Q => ∃ (a : Str) (n : Int), x = .str a ∧ y = .int n ∧ (n.natAbs ≤ 1000000 ∧ a.length * n.toNat ≤ 1000000) ∧ Q (.str (Txt.mul a n)) H
theorem op_mulS : OpR X (binaryOp .Mult) rMulS := by
  intro pins s σ H x y v u Q I rx ry h
  obtain ⟨a, n, rfl, rfl, hc, q⟩ := h
  obtain ⟨t, rfl⟩ := rx
  obtain ⟨t', rfl⟩ := ry
  exact PySem.SB.mul (mulOk_small hc) fun t2 tk => ⟨.str _, H, I.tok tk, ⟨t2, rfl⟩, q⟩
theorem d_mulS : Op2 K rMulS D.mulS := by
  intro F H v u x y z Q s a b hz q
  unfold D.mulS at hz
  split at hz
  · split at hz
    · rename_i hc
      cases hz
      exact ⟨_, _, a.str, b.int, hc, q _ F H (.refl s) (.str _)⟩
    · cases hz
  · cases hz
end
end HD
namespace HD
open PySem PySem.Spec PyProof.Rows L2
/-- the number that a text tells -/
def D.intS : List D → Option D
  | [.str a] => if a.length ≤ 640 then (PySem.intText? a).map .int else none
  | _ => none
section
variable {K : PySem.W.Frag}
theorem d_intS : OpA K (fun xs H Q => ∃ a n, xs = [.str a] ∧ PySem.intText? a = some n ∧ a.length ≤ 640 ∧ Q (.int n) H) D.intS := by
  intro F H vs xs z Q s a hz q
  unfold D.intS at hz
  split at hz
  · split at hz
    · rename_i hl
      obtain ⟨n, hn, rfl⟩ := Option.map_eq_some_iff.mp hz
      obtain ⟨v, rfl, h⟩ := a.one
      exact ⟨_, n, by rw [h.str], hn, hl, q _ F H (.refl s) (.int _)⟩
    · cases hz
  · cases hz
end
end HD
namespace HD
open PySem PySem.Spec PyProof.Rows L2
/-- names in a row, out of a list -/
def gdLst (n : Nat) (r : GDs) : GD := fun d e => match d with
  | .list ds => if ds.length = n then r ds e else none
  | _ => none
section
variable {X : Cx} {K : PySem.W.Frag} {k : Nat}
theorem pgd_lst {es : List Expr} {kk : Nat} {r : GDs} {n : Nat} {ws : List Nat} {pos : Pos} (gd : Good X K k) (h : PGsd X K ws es r) (hn : (assignEach es X.env).length = n := by rfl) (hst : (assignEach es X.env).findIdx? (·.1) = none := by rfl) : PGd X K ws (.Tuple es kk pos) (gdLst n r) := by
  obtain ⟨t1, h, s⟩ := h
  refine ⟨_, pg_unl gd.calm h hn hst, fun G F e σ H v d e' Q rep ha hf q => ?_⟩
  cases ha with
  | lst h1 h2 =>
    simp only [gdLst] at hf
    split at hf
    · rename_i hl
      exact ⟨_, _, rfl, .of (rep.sub _ _ h1), by rw [h2.len]; exact hl, s G F e σ H _ _ e' Q rep h2 hf q⟩
    · cases hf
  | _ => cases hf
end
end HD

/-! sorted({.. for ..}), whole numbers -/
namespace HD
open PySem PySem.Spec PyProof.Rows L2 PpSet
section
variable {X : Cx}
theorem addI_ok {pins : List (Addr × Obj)} {σ : L2.St} {H : Hp} {s : Shared} {E : Value → Shared → Prop} {D : Addr} {S : Int → Bool} {n : Nat} {y : Int} {tk : Tok} {Q : Value → Shared → Prop} (I : Inv X pins σ H s) (hD : H D = some (SetO X.w D S n)) (room : n + 1 < scanBound)
    (fin : ∀ s', Inv X pins σ (upd H D (SetO X.w D (fun j => S j || decide (j = y)) (if S y = true then n else n + 1))) s' → Q .none s') : wpAny (model X.prog X.w) X.A (call (.builtin "set.add") [.ref D, .int y tk]) Q E s := by
  refine setR_add (setO_get I hD) room fun hp sb new => ?_
  obtain ⟨o, es, ep, t, ho, rest⟩ := new
  have new : SetR X.w hp D (fun j => S j || decide (j = y)) (if S y = true then n else n + 1) := ⟨o, es, ep, t, ho, rest⟩
  exact fin _ (I.write (e := D) (t' := s.toks + 1) (by rw [hD]; trivial) (.inl rfl) (fun b u ne hu => (sb.2 b ne).trans hu) ⟨o, ho⟩ (setO_new new))
def tScI (w : World) (wi : TI) (g : TG) (tt : TT) (te : TE) (vs : List Nat) : TE := fun σ H Q => wi σ H fun J H1 => ∀ D, H1 D = none → ∃ W : Nat → Nat → Hp → Prop,
  (∃ m, W 0 m (upd H1 D (SetO w D (fun _ => false) 0))) ∧ ∀ i m H, W i m H → (J.stop i H ∧ Q (.ref D) H) ∨
    (J.go i H ∧ ∃ Nx : Hp → Prop, (∀ H', Nx H' → ∃ m', m' < m ∧ W (i + 1) m' H') ∧ ∀ x H', J.yld i H x H' → g x (wipe σ vs) H' fun σ2 H2 => wipe σ2 vs = wipe σ vs ∧ tt σ2 H2 fun b H3 =>
      if b = true then te σ2 H3 fun y H4 => ∃ (c : Int) (S : Int → Bool) (n : Nat), y = .int c ∧ H4 D = some (SetO w D S n) ∧ n + 1 < scanBound ∧
        Nx (upd H4 D (SetO w D (fun j => S j || decide (j = c)) (if S c = true then n else n + 1))) else Nx H3)
theorem scI_core {ps : List (Addr × Obj)} {s : Shared} {σ : L2.St} {H : Hp} {Q : VK} {elt tg iter : Expr} {ifs : List Expr} {scope : Scope} {ow : List (PySem.Str × Nat)} {pos posb : Pos} {wi : TI} {g : TG} {tt : TT} {te : TE} {usf : Option (Value → Sem Unit)} {Qg : Value → Shared → Prop}
    (hc : X.calm = true) (hN : X.N.Nodup) (I : Inv X ps σ H s) (hit : PI X tg iter wi) (okb : BlkOk X.N X.env.scope scope ow)
    (hg : ∀ (s : Shared) (H : Hp) (C : Addr) (clo : List (PySem.Str × Addr)) (fq : List Addr), PG (X.blk s H scope (compEnvC scope clo C X.env) fq) tg g) (ht : ∀ (s : Shared) (H : Hp) (C : Addr) (clo : List (PySem.Str × Addr)) (fq : List Addr), PTs (X.blk s H scope (compEnvC scope clo C X.env) fq) ifs tt)
    (he : ∀ (s : Shared) (H : Hp) (C : Addr) (clo : List (PySem.Str × Addr)) (fq : List Addr), PE (X.blk s H scope (compEnvC scope clo C X.env) fq) elt te) (hs : ∀ x, foldedSetIterable iter X.env x = pure x)
    (h : tScI X.w wi g tt te (ow.map (·.2)) σ H Q)
    (hRz : ∀ D C s' m H', Inv X ps σ H' s' → Q (.ref D) H' → s'.heap.Ns C m → FpOk X ps H' C → compPost (model X.prog X.w) X.A X.xe usf Qg (.ref D) C (.ok .next) s') :
    wpAny (model X.prog X.w) X.A (comprehension (.SetComp elt [⟨tg, iter, ifs, 0⟩] scope pos) scope X.env posb (newSet (.type "set")) false (eval iter X.env) usf) Qg X.xe s := by
  have hfre : ∀ y ∈ scope.names, y.2 = .free → ∃ c, X.env.cells.lookup y.1 = some c := fun y hy e => by
    rcases okb.free y hy e with k | k
    · exact I.ok.has _ (.inl k)
    · exact I.ok.has _ (.inr k)
  refine wpAny_comprehension_free (use := usf) rfl hs (closure_ok hfre) okb.kind (fun y hy e => by rw [okb.uniq y hy, e])
    (thn (hit.run ps s σ H _ I h) fun xw z1 hxx => thn hxx fun iw z2 h2 => ?_)
  obtain ⟨ia, fq, tt0, J, Y2, e, V2, T, wa2, u2, q⟩ := h2
  subst e
  refine (newSet_ok (newEnv_comp ?_))
  generalize eD : z2.heap.objs.size = D
  have eDn : Y2 D = none := V2.hok.fresh (Nat.le_of_eq eD)
  obtain ⟨W, ⟨m00, y0⟩, trn⟩ := q D eDn
  -- the new list
  generalize hz3 : ({ z2 with heap := z2.heap.push { cls := .type "set", dict := none, data := .set #[] 0 (.fresh 0 0 (!X.w.params.followText "set-order")) } } : Shared) = z3
  have V3 : Inv X ps σ (upd Y2 D (SetO X.w D (fun _ => false) 0)) z3 := by
    rw [← hz3]
    refine V2.laid (t' := z2.toks) (fun b o e => Heap.get?_push_of_some _ e) (Nat.le_of_eq eD) ?_
    rw [← eD]
    exact setO_new (setR_fresh X.w)
  have k3 : z3.heap = z2.heap.push { cls := .type "set", dict := none, data := .set #[] 0 (.fresh 0 0 (!X.w.params.followText "set-order")) } := by rw [← hz3]
  have sz : ∀ b ∈ fq, b < z2.heap.objs.size := fun b hb => by
    obtain ⟨o, e, _⟩ := T.obj _ _ wa2 b hb
    exact Heap.lt_size e
  have u3 : ∀ b ∈ fq, FpOk X ps (upd Y2 D (SetO X.w D (fun _ => false) 0)) b ∧ b < z3.heap.objs.size := fun b hb => by
    have hlt := sz b hb
    refine ⟨⟨?_, (u2 b hb).2⟩, by rw [k3, Heap.size_push]; exact Nat.lt_succ_of_lt hlt⟩
    rw [upd_ne (by rw [← eD]; exact Nat.ne_of_lt hlt)]
    exact (u2 b hb).1
  have wa3 : tt0 0 z3.heap := T.keep _ _ _ wa2 fun b _ o e => by rw [k3]; exact Heap.get?_push_of_some _ e
  have V4 := block_start V3 okb hN u3
  have qg := hg z3 (upd Y2 D (SetO X.w D (fun _ => false) 0)) z3.heap.objs.size (cellsFrom (z3.heap.objs.size + 1) scope.names (cloFrom X.env.cells scope.names [])) fq
  have qt := ht z3 (upd Y2 D (SetO X.w D (fun _ => false) 0)) z3.heap.objs.size (cellsFrom (z3.heap.objs.size + 1) scope.names (cloFrom X.env.cells scope.names [])) fq
  have qe := he z3 (upd Y2 D (SetO X.w D (fun _ => false) 0)) z3.heap.objs.size (cellsFrom (z3.heap.objs.size + 1) scope.names (cloFrom X.env.cells scope.names [])) fq
  show codeAny _ _ (.compStart (.SetComp elt [⟨tg, iter, ifs, 0⟩] scope pos) 0 (.ref ia) (.ref D) (compEnvC scope (cellsFrom (z3.heap.objs.size + 1) scope.names (cloFrom X.env.cells scope.names [])) z3.heap.objs.size X.env)) (compPost (model X.prog X.w) X.A X.xe usf Qg (.ref D) z3.heap.objs.size) { z3 with heap := pushCells (z3.heap.push { cls := .type "dict", data := .dict #[] }) scope.names }
  have nff : ∀ b ∈ fq, (upd Y2 D (SetO X.w D (fun _ => false) 0)) b = none := fun b hb => (u3 b hb).1.1
  generalize hcl : compEnvC scope (cellsFrom (z3.heap.objs.size + 1) scope.names (cloFrom X.env.cells scope.names [])) z3.heap.objs.size X.env = ce at V4 qg qt qe ⊢
  have cL : ce.locals = z3.heap.objs.size := by subst hcl; rfl
  generalize hY3 : upd Y2 D (SetO X.w D (fun _ => false) 0) = Y3 at V3 V4 qg qt qe y0 nff u3
  generalize hz4 : ({ z3 with heap := pushCells (z3.heap.push { cls := .type "dict", data := .dict #[] }) scope.names } : Shared) = z4 at V4 ⊢
  have wa4 : tt0 0 z4.heap := T.keep _ _ _ wa3 fun b _ o e => by rw [← hz4]; exact pushCells_keeps _ _ _ _ (Heap.get?_push_of_some _ e)
  have sta : ∀ {σ' : L2.St} {H' : Hp} {s' : Shared}, Inv (X.blk z3 Y3 scope ce fq) [] σ' H' s' → (∀ b ∈ fq, H' b = none) → ∀ b ∈ fq, FpOk (X.blk z3 Y3 scope ce fq) [] H' b := fun {σ' H' s'} I' hn b hb =>
    ⟨hn b hb, (I'.ok.exf b hb).1, I'.ok.exfs b hb, .inl hb, fun x c e => (I'.ok.exf b hb).2 x c e, fun p hq => absurd (show p ∈ ([] : List (Addr × Obj)) ++ [] from hq) (by simp)⟩
  have lp : codeAny (model X.prog X.w) X.A (.compLoop (.SetComp elt [⟨tg, iter, ifs, 0⟩] scope pos) 0 (.ref ia) (.ref D) ce) (compPost (model X.prog X.w) X.A X.xe usf Qg (.ref D) z3.heap.objs.size) z4 := by
    refine compLoopS_any (fun n s' => ∃ i H', Inv (X.blk z3 Y3 scope ce fq) [] (wipe σ (ow.map (·.2))) H' s' ∧ tt0 i s'.heap ∧ (∀ b ∈ fq, H' b = none) ∧ W i n H') ?_ m00 ⟨0, Y3, V4, wa4, nff, y0⟩
    rintro n z5 ⟨i, Y5, V5, wa5, m5, y5⟩
    rcases trn i n Y5 y5 with ⟨stop, qz⟩ | ⟨go, Nx, hNx, step⟩
    · have td := T.done (X.blk z3 Y3 scope ce fq) rfl rfl rfl hc i [] z5 _ Y5 (fun _ _ => False) V5 (sta V5 m5) wa5 stop
      refine thnF td fun r z6 ⟨hr, V6⟩ => ?_
      subst hr
      -- back in the def's context
      have V7 : Inv X ps σ Y5 z6 := V3.call' (ch := fq) V6.os V6.base V6.hok V6.bare fun b hb => ⟨(u3 b hb).1.2.2.2.1, (u3 b hb).1.2.1, (u3 b hb).1.2.2.2.2.1, (u3 b hb).1.2.2.2.2.2⟩
      have nC : Y5 z3.heap.objs.size = none := by
        have z : Y5 ce.locals = none := V6.free
        rw [cL] at z
        exact z
      obtain ⟨m, hn, _⟩ := V6.loc
      have hn : z6.heap.Ns ce.locals m := hn
      rw [cL] at hn
      exact hRz D z3.heap.objs.size z6 m Y5 V7 qz hn (V3.fpOk (Nat.le_refl _) nC)
    · have ti := T.item (X.blk z3 Y3 scope ce fq) rfl rfl rfl hc i [] z5 _ Y5 (fun _ _ => False) V5 (sta V5 m5) wa5 go
      refine thnF ti fun r z6 ⟨u, hr, h6⟩ => ?_
      subst hr
      refine thnF h6 fun _ z7 ⟨x, Y7, V7, r7, y7, wa7, m7⟩ => ?_
      have V7' := V7.pinned (sta V7 m7) (T.obj _ _ wa7)
      refine thnF (qg.run _ z7 _ Y7 x u _ V7' r7 (step x Y7 y7)) fun _ z8 ⟨σ8, Y8, V8, hw8, q8⟩ => ?_
      refine thnF (qt.run _ z8 σ8 Y8 _ V8 q8) fun b z9 ⟨Y9, V9, q9⟩ => ?_
      -- the turn's end
      have endt : ∀ {s' : Shared} {H' : Hp}, Inv (X.blk z3 Y3 scope ce fq) ([] ++ pinsAt fq z7.heap) σ8 H' s' → Nx H' → ∃ m, m < n ∧ ∃ i H', Inv (X.blk z3 Y3 scope ce fq) [] (wipe σ (ow.map (·.2))) H' s' ∧ tt0 i s'.heap ∧ (∀ b ∈ fq, H' b = none) ∧ W i m H' := fun {s' H'} I' nx => by
        obtain ⟨m', hm, w'⟩ := (hNx H' nx)
        have pin' : ∀ b ∈ fq, ∀ o, z7.heap.get? b = some o → s'.heap.get? b = some o ∧ H' b = none := fun b hb o e =>
          let z := (I'.pin) (b, o) (List.mem_append_right _ (List.mem_append_right _ (mem_pinsAt hb e)))
          ⟨z.1, z.2.1⟩
        have hl : (wipe σ (ow.map (·.2))).length = σ8.length := by rw [← hw8, wipe_length]
        refine ⟨m', hm, i + 1, H', (I'.unpinned (pins := [])).weak hl (fun j v e => ?_), T.keep _ _ _ wa7 fun b hb o e => (pin' b hb o e).1, fun b hb => ?_, w'⟩
        · rw [← hw8] at e
          exact (wipe_some e).1
        · obtain ⟨o, e, _⟩ := T.obj _ _ wa7 b hb
          exact (pin' b hb o e).2
      cases b with
      | false =>
        simp only [if_false, Bool.false_eq_true] at q9 ⊢
        exact endt V9 q9
      | true =>
        simp only [if_true] at q9 ⊢
        refine thnF (qe.run _ z9 σ8 Y9 _ V9 q9) fun z z10 ⟨yv, Y10, V10, r10, cb, S0, n0, ey, hD10, hz10, nx⟩ => ?_
        subst ey
        obtain ⟨tk, rfl⟩ := r10
        exact addI_ok (X := X.blk z3 Y3 scope ce fq) V10 hD10 hz10 fun z11 V11 => endt V11 nx
  exact codeAny_compStart_set lp (T.self X.A 0 _ _ _ wa4 lp)
theorem pe_scI {elt tg iter : Expr} {ifs : List Expr} {scope : Scope} {ow : List (PySem.Str × Nat)} {pos : Pos} {wi : TI} {g : TG} {tt : TT} {te : TE} (hc : X.calm = true) (hN : X.N.Nodup) (hit : PI X tg iter wi) (okb : BlkOk X.N X.env.scope scope ow)
    (hg : ∀ (s : Shared) (H : Hp) (C : Addr) (clo : List (PySem.Str × Addr)) (fq : List Addr), PG (X.blk s H scope (compEnvC scope clo C X.env) fq) tg g) (ht : ∀ (s : Shared) (H : Hp) (C : Addr) (clo : List (PySem.Str × Addr)) (fq : List Addr), PTs (X.blk s H scope (compEnvC scope clo C X.env) fq) ifs tt)
    (he : ∀ (s : Shared) (H : Hp) (C : Addr) (clo : List (PySem.Str × Addr)) (fq : List Addr), PE (X.blk s H scope (compEnvC scope clo C X.env) fq) elt te) (hs : ∀ x, foldedSetIterable iter X.env x = pure x := by intro _; rfl) :
    PE X (.SetComp elt [⟨tg, iter, ifs, 0⟩] scope pos) (tScI X.w wi g tt te (ow.map (·.2))) := by
  refine ⟨fun ps s σ H Q I h => ?_⟩
  rw [eval_SetComp]
  refine scI_core hc hN I hit okb hg ht he hs h fun D C s' m H' I' q hn f => ⟨m, hn, fun h'' sb => ?_⟩
  obtain ⟨f0, f1, u2, u3, f4, f5⟩ := f
  exact ⟨.ref D, H', I'.turned (t' := s'.toks) (fun b o hb e => (sb.2 b hb).trans e) f0 f1 u3 f4 f5, rfl, q⟩
end
end HD
namespace HD
open PySem PySem.Spec PyProof.Rows L2
/-! ### the sorted row of the numbers of a list -/
def ins1 (x : Int) : List Int → List Int
  | [] => [x]
  | y :: l => if x < y then x :: y :: l else if x = y then y :: l else y :: ins1 x l
def sdd (l : List Int) : List Int := l.foldl (fun a x => ins1 x a) []
theorem ins1_mem (x : Int) : ∀ (l : List Int) (k : Int), k ∈ ins1 x l ↔ k = x ∨ k ∈ l
  | [], k => by simp [ins1]
  | y :: l, k => by
    unfold ins1
    split
    · simp
    · split
      · rename_i h1 h2
        subst h2
        simp
      · rw [List.mem_cons, List.mem_cons, ins1_mem x l k]
        constructor
        · rintro (h | h | h)
          · exact .inr (.inl h)
          · exact .inl h
          · exact .inr (.inr h)
        · rintro (h | h | h)
          · exact .inr (.inl h)
          · exact .inl h
          · exact .inr (.inr h)
theorem ins1_asc (x : Int) : ∀ {l : List Int}, l.Pairwise (· < ·) → (ins1 x l).Pairwise (· < ·)
  | [], _ => by simp [ins1]
  | y :: l, h => by
    obtain ⟨h1, h2⟩ := List.pairwise_cons.mp h
    unfold ins1
    split
    · rename_i hx
      exact List.pairwise_cons.mpr ⟨fun z hz => by
        rcases List.mem_cons.mp hz with rfl | hz
        · exact hx
        · have := h1 z hz; omega, h⟩
    · split
      · exact h
      · rename_i a1 a2
        refine List.pairwise_cons.mpr ⟨fun z hz => ?_, ins1_asc x h2⟩
        rcases (ins1_mem x l z).mp hz with rfl | hz
        · omega
        · exact h1 z hz
theorem ins1_len (x : Int) : ∀ {l : List Int}, l.Pairwise (· < ·) → (ins1 x l).length = if x ∈ l then l.length else l.length + 1
  | [], _ => by simp [ins1]
  | y :: l, h => by
    obtain ⟨h1, h2⟩ := List.pairwise_cons.mp h
    unfold ins1
    split
    · rename_i hx
      have : x ∉ y :: l := fun hm => by
        rcases List.mem_cons.mp hm with e | hm
        · omega
        · have := h1 x hm; omega
      rw [if_neg this]; simp
    · split
      · rename_i a1 a2
        subst a2
        simp
      · rename_i a1 a2
        rw [List.length_cons, ins1_len x h2]
        by_cases hm : x ∈ l
        · rw [if_pos hm, if_pos (List.mem_cons.mpr (.inr hm)), List.length_cons]
        · rw [if_neg hm, if_neg (fun z => (List.mem_cons.mp z).elim a2 hm), List.length_cons]
theorem sdd_app (l : List Int) (x : Int) : sdd (l ++ [x]) = ins1 x (sdd l) := by simp [sdd]
theorem sdd_asc (l : List Int) : (sdd l).Pairwise (· < ·) := by
  have key : ∀ (l a : List Int), a.Pairwise (· < ·) → (l.foldl (fun a x => ins1 x a) a).Pairwise (· < ·) := by
    intro l
    induction l with
    | nil => exact fun a h => h
    | cons x l ih => exact fun a h => ih _ (ins1_asc x h)
  exact key l [] .nil
theorem sdd_mem (l : List Int) (k : Int) : k ∈ sdd l ↔ k ∈ l := by
  have key : ∀ (l a : List Int), k ∈ l.foldl (fun a x => ins1 x a) a ↔ k ∈ a ∨ k ∈ l := by
    intro l
    induction l with
    | nil => intro a; simp
    | cons x l ih =>
      intro a
      rw [List.foldl_cons, ih, ins1_mem, List.mem_cons]
      constructor
      · rintro ((h | h) | h)
        · exact .inr (.inl h)
        · exact .inl h
        · exact .inr (.inr h)
      · rintro (h | h | h)
        · exact .inl (.inr h)
        · exact .inl (.inl h)
        · exact .inr h
  simpa [sdd] using key l []
theorem asc_uniq : ∀ {a b : List Int}, a.Pairwise (· < ·) → b.Pairwise (· < ·) → (∀ k, k ∈ a ↔ k ∈ b) → a = b
  | [], [], _, _, _ => rfl
  | [], y :: b, _, _, h => absurd ((h y).mpr (by simp)) (by simp)
  | x :: a, [], _, _, h => absurd ((h x).mp (by simp)) (by simp)
  | x :: a, y :: b, ha, hb, h => by
    obtain ⟨a1, a2⟩ := List.pairwise_cons.mp ha
    obtain ⟨b1, b2⟩ := List.pairwise_cons.mp hb
    have e : x = y := by
      have h1 := (h x).mp (by simp)
      have h2 := (h y).mpr (by simp)
      rcases List.mem_cons.mp h1 with e | h1
      · exact e
      · rcases List.mem_cons.mp h2 with e | h2
        · exact e.symm
        · have := b1 x h1
          have := a1 y h2
          omega
    subst e
    rw [asc_uniq a2 b2 fun k => ?_]
    have hk := h k
    rw [List.mem_cons, List.mem_cons] at hk
    constructor
    · intro m
      rcases hk.mp (.inr m) with e | z
      · have := a1 k m; omega
      · exact z
    · intro m
      rcases hk.mpr (.inr m) with e | z
      · have := b1 k m; omega
      · exact z
/-- sorted({el for g in fi if c}), whole numbers -/
def dSortSet (fi : ID) (g : GD) (c : TD) (el : XD) (vs : List Nat) : ND := fun e => (fi e).bind fun p => if p.1.length ≤ 1000 then
  (wipeC vs p.2).bind fun e1 => (dLcGo g c el vs p.1 e1).bind fun r => (ints? r.1).bind fun ns => if (sdd ns).length < 64 then some (.list ((sdd ns).map .int), unwE p.2 vs r.2) else none else none
section
variable {X : Cx} {K : PySem.W.Frag} {k : Nat} {vs : List Nat}
theorem sem_scI {w : World} {wi : TI} {g : TG} {tt : TT} {te : TE} {fi : ID} {gd : GD} {fc : TD} {el : XD} {ws : List Nat} (si : SemI K wi fi) (sg : SemG K ws g gd) (st : SemT K tt fc) (se : SemE K te el) (hws : ∀ i ∈ ws, i ∈ vs) : SemN K (tCB (rSortedSet w) (tCons (tScI w wi g tt te vs) tNil)) (dSortSet fi gd fc el vs) := by
  intro G F e σ H d e' Q rep hf q
  unfold dSortSet at hf
  simp only [Option.bind_eq_some_iff] at hf
  obtain ⟨⟨ds, e1⟩, h1, hf⟩ := hf
  split at hf
  · rename_i hlen
    replace hlen : ds.length ≤ 1000 := hlen
    simp only [Option.bind_eq_some_iff] at hf
    obtain ⟨e2, h2, ⟨zs, e3⟩, h3, ns, h4, hf⟩ := hf
    split at hf
    · rename_i h64
      cases hf
      refine si G F e σ H ds e1 _ rep h1 fun J F1 H1 rep1 ss1 itd D hD => ?_
      have repw := rep1.wipe h2
      obtain ⟨repp, hF0, hads, hH0⟩ := repw.pin (o := SetO w D (fun _ => false) 0) hD
      have hzs : zs = ns.map PyData.int := ints?_some h4
      let Inv (i : Nat) (H : Hp) : Prop := ∃ (F2 : Hp) (ex : Env) (S : Int → Bool) (n : Nat) (acc : List Int) (rest : List PyData), Rep K (G.pin D (SetO w D S n)) F2 ex (L2.wipe σ vs) H ∧ Same F1 F2 ∧ (∀ k, S k = true ↔ k ∈ acc) ∧ n = (sdd acc).length ∧ dLcGo gd fc el vs (ds.drop i) ex = some (rest, e3) ∧ zs = acc.map PyData.int ++ rest ∧ n ≤ i
      refine ⟨fun i m H => Inv i H ∧ m = ds.length - i, ⟨_, ⟨F1, e2, _, 0, [], zs, repp, .refl _, by simp, rfl, h3, rfl, Nat.le_refl _⟩, rfl⟩, ?_⟩
      rintro i m H2 ⟨⟨F2, ex, S, n, acc, rest, rep2, ss2, hS, hn, hgo, hz, hni⟩, rfl⟩
      cases hd : ds.drop i with
      | nil =>
        rw [hd] at hgo
        cases hgo
        have hle : ds.length ≤ i := by simpa using hd
        refine .inl ⟨itd.stop i F2 H2 ss2 rep2.sub hle, ?_⟩
        rw [List.append_nil] at hz
        have hacc : acc = ns := by
          rw [hz] at hzs
          have inj : ∀ (a b : List Int), a.map PyData.int = b.map PyData.int → a = b := by
            intro a
            induction a with
            | nil => intro b h; cases b with
              | nil => rfl
              | cons y b => cases h
            | cons x a ih => intro b h; cases b with
              | nil => cases h
              | cons y b =>
                rw [List.map_cons, List.map_cons] at h
                injection h with h1 h2
                injection h1 with h1
                rw [h1, ih b h2]
          exact inj _ _ hzs
        subst hacc
        refine ⟨D, S, n, rfl, rep2.pinned hads, by omega, fun ms p hasc hmem hlen2 hp => ?_⟩
        have hms : ms = sdd acc := asc_uniq hasc (sdd_asc acc) fun k => by rw [hmem, hS, sdd_mem]
        subst hms
        obtain ⟨r1, _⟩ := rep2.unpin hH0 hF0
        have r2 := rep1.unw h2 r1 ss2
        obtain ⟨r3, f3⟩ := r2.new (o := .lst ((sdd acc).map V.int)) (d := .list ((sdd acc).map .int)) hp (.lst (atL_ints _))
        exact q p F2 _ r3 (ss1.trans ss2) f3
      | cons d r =>
        obtain ⟨hdi, hdr⟩ := drop_cons hd
        have hlt : i < ds.length := (List.getElem?_eq_some_iff.mp hdi).1
        rw [hd] at hgo
        simp only [dLcGo, Option.bind_eq_some_iff] at hgo
        obtain ⟨e4, h5, ⟨b, e5⟩, h6, hgo⟩ := hgo
        refine .inr ⟨itd.go i d F2 H2 ss2 rep2.sub hdi, fun H => Inv (i + 1) H, fun H' hv => ⟨ds.length - (i + 1), by omega, hv, rfl⟩, fun x H' hy => ?_⟩
        obtain ⟨F3, ad, ax⟩ := itd.yld i d F2 H2 x H' ss2 rep2.sub hdi hy
        refine sg _ F3 ex _ H' x d e4 _ (rep2.adds ad) ax h5 fun σ4 F4 H4 rep4 ss4 off => ?_
        have hwp : L2.wipe σ4 vs = L2.wipe σ vs := wipe_off off hws
        refine ⟨hwp, st _ F4 e4 σ4 H4 b e5 _ rep4 h6 fun F5 H5 rep5 ss5 => ?_⟩
        have s15 : Same F2 F5 := ad.ff.trans (ss4.trans ss5)
        cases b with
        | true =>
          simp only [if_true, Option.bind_eq_some_iff, Option.map_eq_some_iff] at hgo
          obtain ⟨⟨ry, e6⟩, h7, ⟨y, e7⟩, h8, e8, h9, ⟨rest', e9⟩, h10, hgo⟩ := hgo
          cases hgo
          have hy : ∃ v : Int, y = .int v := by
            have hm : y ∈ zs := by rw [hz]; simp
            rw [hzs] at hm
            obtain ⟨v, _, rfl⟩ := List.mem_map.mp hm
            exact ⟨v, rfl⟩
          obtain ⟨v, rfl⟩ := hy
          refine iteT (se _ F5 e5 σ4 H5 ry e6 _ rep5 h7 fun u F6 H6 rep6 ss6 a6 => ?_)
          obtain ⟨F7, rep7, ss7, a7⟩ := rep6.take a6 h8
          have rep8 := rep7.wipe h9
          rw [hwp] at rep8
          have hu : u = .int v := by cases a7; rfl
          subst hu
          refine ⟨v, S, n, rfl, rep6.pinned hads, by show n + 1 < 4096; omega, F7, e8, _, _, acc ++ [v], rest', rep8.repin hF0 hads, ss2.trans (s15.trans (ss6.trans ss7)), fun j => ?_, ?_, ?_, ?_, ?_⟩
          · rw [Bool.or_eq_true, hS, decide_eq_true_eq, List.mem_append, List.mem_singleton]
          · rw [sdd_app, ins1_len v (sdd_asc acc), hn]
            by_cases hm : S v = true
            · rw [if_pos hm, if_pos ((sdd_mem acc v).mpr ((hS v).mp hm))]
            · rw [if_neg hm, if_neg (fun z => hm ((hS v).mpr ((sdd_mem acc v).mp z)))]
          · rw [hdr]; exact h10
          · rw [List.map_append, List.append_assoc]; exact hz
          · split <;> omega
        | false =>
          simp only [Bool.false_eq_true, if_false, Option.bind_eq_some_iff] at hgo
          obtain ⟨e8, h9, h10⟩ := hgo
          have rep8 := rep5.wipe h9
          rw [hwp] at rep8
          exact iteF ⟨F5, e8, S, n, acc, rest, rep8, ss2.trans s15, hS, hn, by rw [hdr]; exact h10, hz, by omega⟩
    · cases hf
  · cases hf
theorem pnd_sortSet {elt tg iter : Expr} {ifs : List Expr} {scope : Scope} {own : List (Str × Nat)} {pos cpos p : Pos} {fi : ID} {gd : GD} {fc : TD} {el : XD} {ws : List Nat} {x : Str} (g0 : Good X K k) (hi : PId X K tg iter fi) (ok : BlkOk X.N X.env.scope scope own)
    (hg : Blk X scope fun Y => PGd Y K ws tg gd) (ht : Blk X scope fun Y => PTsd Y K ifs fc) (he : Blk X scope fun Y => PEd Y K elt el)
    (hgl : Gl X x) (hm : X.mg x = none) (hv : bootBuiltins x = some (.builtin "sorted")) (hws : ∀ i ∈ ws, i ∈ own.map (·.2) := by decide) (hs : ∀ x, foldedSetIterable iter X.env x = pure x := by intro _; rfl) (hn : x ≠ "__name__" := by decide) (hdb : (x == ("__debug__" : Str)) = false := by decide)
    (hst : starEach [.SetComp elt [⟨tg, iter, ifs, 0⟩] scope pos] X.env = (false, eval (.SetComp elt [⟨tg, iter, ifs, 0⟩] scope pos) X.env) :: starEach [] X.env := by rfl) (hpl : (backTo cpos (starEach [] X.env)).any (·.1) = false := by rfl) :
    PNd X K (.Call (.Name x p) [.SetComp elt [⟨tg, iter, ifs, 0⟩] scope pos] [] cpos) (dSortSet fi gd fc el (own.map (·.2))) := by
  obtain ⟨wi, hi, si⟩ := hi
  have h1 := pe_scI (pos := pos) g0.calm g0.nd hi ok (fun s H C cl fp => (hg s H C cl fp).canon) (fun s H C cl fp => (ht s H C cl fp).canon) (fun s H C cl fp => (he s H C cl fp).canon) hs
  exact ⟨_, pe_callB (cr_sortedSet g0.calm) hgl hm hv (pa_cons h1 pa_nil) hn hdb hst hpl, sem_scI si sem_cG sem_cT sem_cE hws⟩
end
end HD

namespace CM
open PySem PySem.Spec PyProof.Rows L2 RT HD

def f__law_cell : List D → Option (D × List D) := dFn 2 [false, false]
  ((dSeq (dIfS (dB (dBin D.lt (dVar 1) (dCB D.len (dA1 (dVar 0) dA0)))) (dRet (dBin D.ix (dVar 0) (dVar 1))) dNx)
  (dRet (dC (.int 0)))))
def b__law_digits_2 : SD :=
  (dIfS (dB (dBin D.gt (dVar 5) (dC (.int 0)))) (dSeq (dDrop (dMut D.append (dSlot 3) (dA1 (dBin D.mod (dCB D.int1 (dA1 (dVar 5) dA0)) (dC (.int 1000))) dA0)))
  (dSet 5 (dBin D.fdiv (dVar 5) (dC (.int 1000))))) dNx)
def b__law_digits_3 : SD :=
  (dSeq (dSet 7 (dBin D.mod (dCB D.int1 (dA1 (dBin D.add (dBin D.add (dBin D.mul (dVar 7) (dC (.int 16807))) (dBin D.mul (dC (.int 7)) (dVar 6))) (dC (.int 1))) dA0)) (dC (.int 2147483647))))
  (dDrop (dMut D.append (dSlot 3) (dA1 (dBin D.mod (dCB D.int1 (dA1 (dBin D.fdiv (dVar 7) (dC (.int 997))) dA0)) (dC (.int 1000))) dA0))))
def b__law_digits_1 : SD :=
  (dSeq (dSet 5 (dCall [false, false] f__law_cell (dA1 (dVar 0) (dA1 (dVar 4) dA0))))
  (dSeq (dIfS (dB (dBin D.lt (dVar 5) (dC (.int 0)))) (dSet 5 (dBin D.sub (dC (.int 1)) (dBin D.mul (dC (.int 2)) (dVar 5)))) dNx)
  (dIfS (dB (dBin D.ge (dVar 5) (dBin D.pow (dC (.int 10)) (dC (.int 18))))) (dFor (dIA range1 (dA1 (dC (.int 60)) dA0)) (gdName 6) b__law_digits_2) (dSeq (dSet 7 (dBin D.mod (dCB D.int1 (dA1 (dBin D.add (dBin D.add (dBin D.mul (dVar 5) (dC (.int 48271))) (dBin D.mul (dVar 4) (dC (.int 69621)))) (dC (.int 11))) dA0)) (dC (.int 2147483647))))
  (dFor (dIA range1 (dA1 (dC (.int 12)) dA0)) (gdName 6) b__law_digits_3)))))
def f__law_digits : List D → Option (D × List D) := dFn 8 [false, false, false]
  ((dSeq (dSetN 3 (dLst dA0))
  (dSeq (dFor (dIA range2 (dA1 (dVar 1) (dA1 (dVar 2) dA0))) (gdName 4) b__law_digits_1)
  (dRet (dVar 3)))))
def f__law_draw : List D → Option (D × List D) := dFn 2 [true, false]
  ((dSeq (dStore D.setIx (dBin D.add (dBin D.ix (dVar 0) (dC (.int 1))) (dC (.int 1))) (dVar 0) (dC (.int 1)))
  (dSeq (dIfS (dB (dBin D.gt (dBin D.ix (dVar 0) (dC (.int 1))) (dCB D.len (dA1 (dBin D.ix (dVar 0) (dC (.int 0))) dA0)))) (dRet (dBin D.mod (dCB D.int1 (dA1 (dBin D.add (dBin D.mul (dBin D.ix (dVar 0) (dC (.int 1))) (dC (.int 7))) (dC (.int 3))) dA0)) (dVar 1))) dNx)
  (dRet (dBin D.mod (dCB D.int1 (dA1 (dBin D.ix (dBin D.ix (dVar 0) (dC (.int 0))) (dBin D.sub (dBin D.ix (dVar 0) (dC (.int 1))) (dC (.int 1)))) dA0)) (dVar 1))))))
def f__law_pick : List D → Option (D × List D) := dFn 2 [true, false]
  ((dRet (dBin D.ix (dVar 1) (dBin D.mod (dCB D.int1 (dA1 (dCall [true, false] f__law_draw (dA1 (dVar 0) (dA1 (dC (.int 1000)) dA0))) dA0)) (dCB D.len (dA1 (dVar 1) dA0))))))
def r__law_same : Nat → List D → Option (D × List D)
  | 0 => fun _ => none
  | n + 1 => dFn 3 [false, false]
    ((dSeq (dIfS (dB (dBin D.isN (dVar 1) (dC .none))) (dRet (dBin D.isN (dVar 0) (dC .none))) dNx)
  (dSeq (dIfS (dB (dBin D.isB (dVar 1) (dC (.bool true)))) (dRet (dBin D.isB (dVar 0) (dC (.bool true)))) dNx)
  (dSeq (dIfS (dB (dBin D.isB (dVar 1) (dC (.bool false)))) (dRet (dBin D.isB (dVar 0) (dC (.bool false)))) dNx)
  (dSeq (dIfS (dTr (dUn (D.isi .str) (dVar 1))) (dRet (dAndV (dUn (D.isi .str) (dVar 0)) (dBin D.eq (dCB D.repr (dA1 (dVar 0) dA0)) (dCB D.repr (dA1 (dVar 1) dA0))))) dNx)
  (dSeq (dIfS (dTr (dUn (D.isi .int) (dVar 1))) (dRet (dAndV (dUn (D.isi .int) (dVar 0)) (dAndV (dNotV (dUn (D.isi .bool) (dVar 0))) (dBin D.eq (dCB D.repr (dA1 (dVar 0) dA0)) (dCB D.repr (dA1 (dVar 1) dA0)))))) dNx)
  (dSeq (dIfS (dOr (dAnd (dTr (dUn (D.isi .tuple) (dVar 1))) (dNot (dTr (dUn (D.isi .tuple) (dVar 0))))) (dAnd (dTr (dUn (D.isi .list) (dVar 1))) (dNot (dTr (dUn (D.isi .list) (dVar 0)))))) (dRet (dC (.bool false))) dNx)
  (dSeq (dIfS (dB (dBin D.ne (dCB D.len (dA1 (dVar 0) dA0)) (dCB D.len (dA1 (dVar 1) dA0)))) (dRet (dC (.bool false))) dNx)
  (dSeq (dFor (dIA range1 (dA1 (dCB D.len (dA1 (dVar 1) dA0)) dA0)) (gdName 2) (dIfS (dNot (dTr (dCall [false, false] (r__law_same n) (dA1 (dBin D.ix (dVar 0) (dVar 2)) (dA1 (dBin D.ix (dVar 1) (dVar 2)) dA0))))) (dRet (dC (.bool false))) dNx))
  (dRet (dC (.bool true))))))))))))
def f__law_same : List D → Option (D × List D) := r__law_same 8
def b__law_measure_1 : SD :=
  (dSeq (dIfS (dB (dBin D.eq (dVar 1) (dC (.int 0)))) dBrk dNx)
  (dPar 0 1 (dA1 (dVar 1) (dA1 (dBin D.mod (dCB D.int1 (dA1 (dVar 0) dA0)) (dVar 1)) dA0))))
def f__law_measure : List D → Option (D × List D) := dFn 3 [false, false]
  ((dSeq (dFor (dIA range1 (dA1 (dC (.int 4000)) dA0)) (gdName 2) b__law_measure_1)
  (dRet (dVar 0))))
def f__law_drawB : List D → Option (D × List D) := dFn 2 [true, false]
  ((dSeq (dStore D.setIx (dBin D.add (dBin D.ix (dVar 0) (dC (.int 1))) (dC (.int 1))) (dVar 0) (dC (.int 1)))
  (dSeq (dIfS (dB (dBin D.gt (dBin D.ix (dVar 0) (dC (.int 1))) (dCB D.len (dA1 (dBin D.ix (dVar 0) (dC (.int 0))) dA0)))) (dRet (dBin D.mod (dCB D.int1 (dA1 (dBin D.add (dBin D.add (dBin D.ix (dBin D.ix (dVar 0) (dC (.int 0))) (dBin D.mod (dCB D.int1 (dA1 (dBin D.mul (dBin D.ix (dVar 0) (dC (.int 1))) (dC (.int 31))) dA0)) (dCB D.len (dA1 (dBin D.ix (dVar 0) (dC (.int 0))) dA0)))) (dBin D.mul (dBin D.ix (dVar 0) (dC (.int 1))) (dC (.int 7)))) (dC (.int 3))) dA0)) (dVar 1))) dNx)
  (dRet (dBin D.mod (dCB D.int1 (dA1 (dBin D.ix (dBin D.ix (dVar 0) (dC (.int 0))) (dBin D.sub (dBin D.ix (dVar 0) (dC (.int 1))) (dC (.int 1)))) dA0)) (dVar 1))))))
def f__law_pickB : List D → Option (D × List D) := dFn 2 [true, false]
  ((dRet (dBin D.ix (dVar 1) (dBin D.mod (dCB D.int1 (dA1 (dCall [true, false] f__law_drawB (dA1 (dVar 0) (dA1 (dC (.int 1000)) dA0))) dA0)) (dCB D.len (dA1 (dVar 1) dA0))))))
def b__law_mixed_1 : SD :=
  (dDrop (dMut D.append (dSlot 3) (dA1 (dMut D.popAt (dSlot 2) (dA1 (dBin D.mod (dCB D.int1 (dA1 (dCall [true, false] f__law_draw (dA1 (dVar 0) (dA1 (dC (.int 1000)) dA0))) dA0)) (dCB D.len (dA1 (dVar 2) dA0))) dA0)) dA0)))
def f__law_mixed : List D → Option (D × List D) := dFn 5 [true, false]
  ((dSeq (dSetN 2 (dCBN D.list1 (dA1 (dVar 1) dA0)))
  (dSeq (dSetN 3 (dLst dA0))
  (dSeq (dFor (dIA range1 (dA1 (dCB D.len (dA1 (dVar 1) dA0)) dA0)) (gdName 4) b__law_mixed_1)
  (dRet (dVar 3))))))
def b__law_mixedB_1 : SD :=
  (dDrop (dMut D.append (dSlot 4) (dA1 (dMut D.popAt (dSlot 3) (dA1 (dCall [true, false] f__law_drawB (dA1 (dVar 0) (dA1 (dCB D.len (dA1 (dVar 3) dA0)) dA0))) dA0)) dA0)))
def f__law_mixedB : List D → Option (D × List D) := dFn 5 [true, false]
  ((dSeq (dPar 3 4 (dA1 (dN (dCBN D.list1 (dA1 (dVar 1) dA0))) (dA1 (dN (dLst dA0)) dA0)))
  (dSeq (dFor (dIA range1 (dA1 (dCB D.len (dA1 (dVar 1) dA0)) dA0)) (gdName 2) b__law_mixedB_1)
  (dRet (dVar 4)))))
def f__law_low : List D → Option (D × List D) := dFn 3 [false, false]
  ((dSeq (dIfS (dB (dBin D.lt (dVar 1) (dC (.int 0)))) (dPar 0 1 (dA1 (dUn D.neg (dVar 0)) (dA1 (dUn D.neg (dVar 1)) dA0))) dNx)
  (dSeq (dSet 2 (dCall [false, false] f__law_measure (dA1 (dCB D.max2 (dA1 (dVar 0) (dA1 (dUn D.neg (dVar 0)) dA0))) (dA1 (dVar 1) dA0))))
  (dRet (dTup (dA1 (dBin D.fdiv (dVar 0) (dVar 2)) (dA1 (dBin D.fdiv (dVar 1) (dVar 2)) dA0)))))))
end CM

/-! math.gcd; texts with values put in -/
namespace HD
open PySem PySem.Spec PyProof.Rows L2
def D.gcd : List D → Option D
  | [.int a, .int b] => some (.int ((Nat.gcd a.natAbs b.natAbs : Nat) : Int))
  | _ => none
section
variable {X : Cx} {K : PySem.W.Frag} {k : Nat}
theorem d_gcd : OpA K rGcd D.gcd := by
  intro F H vs xs z Q s ts hz q
  unfold D.gcd at hz
  split at hz
  · cases hz
    obtain ⟨u1, u2, rfl, h1, h2⟩ := ts.two
    exact ⟨_, _, by rw [h1.int, h2.int], q _ F H (.refl s) (.int _)⟩
  · cases hz
variable {x : Str} {p pos : Pos} {a : Expr} {es : List Expr} {fr : AD}
theorem ped_callBfun {id : String} {r : List V → Hp → VK → Prop} {g : List D → Option D} (hc : CallR X (.builtin id) r) (h : OpA K r g) (hg : Gl X x) (hm : X.mg x = some (.builtin id)) (ha : PAd X K (a :: es) fr) (hdb : (x == ("__debug__" : Str)) = false := by decide)
    (he : starEach (a :: es) X.env = (false, eval a X.env) :: starEach es X.env := by rfl) (hpl : (backTo pos (starEach es X.env)).any (·.1) = false := by rfl) : PEd X K (.Call (.Name x p) (a :: es) [] pos) (dCB g fr) := by
  obtain ⟨t, ha, sa⟩ := ha
  exact ⟨_, pe_callBfun hc hg hm ha hdb he hpl, sem_cb h sa⟩
/-! texts with values put in -/
def fmtD : D → Option Str
  | .str y => if y.length ≤ 16777216 then some y else none
  | .int i => if i.natAbs.log2 < 1920 then some (toString i) else none
  | _ => none
def dFmt (f : XD) : XD := fun e => (f e).bind fun p => (p.1.get p.2).bind fun d => (fmtD d).map fun y => (.dat (.str y), p.2)
theorem ped_fmt {e : Expr} {f : XD} (h : PEd X K e f) : PEd X K (.FormattedValue e (-1) none pos) (dFmt f) := by
  obtain ⟨t, h, s⟩ := h
  refine ⟨_, pe_fmt h, fun G F e σ H r' e' Q rep hf q => ?_⟩
  unfold dFmt at hf
  simp only [Option.bind_eq_some_iff, Option.map_eq_some_iff] at hf
  obtain ⟨⟨r, e1⟩, h1, d, hd, y, hy, hf⟩ := hf
  cases hf
  refine s G F e σ H r e1 _ rep h1 fun v F1 H1 rep1 s1 a1 => ?_
  have tp := a1.top rep1 hd
  unfold fmtD at hy
  split at hy
  · split at hy
    · rename_i hl
      cases hy
      exact .inl ⟨_, tp.str, lim_le hl, q _ F1 H1 rep1 s1 (.str _)⟩
    · cases hy
  · split at hy
    · rename_i hl
      cases hy
      exact .inr ⟨_, tp.int, hl, q _ F1 H1 rep1 s1 (.str _)⟩
    · cases hy
  · cases hy
abbrev JD := Str → HD.Env → Option (Str × HD.Env)
def dJ0 : JD := fun acc e => some (acc, e)
def dJ1 (f : XD) (r : JD) : JD := fun acc e => (f e).bind fun p => (p.1.get p.2).bind fun d => match d with
  | .str y => if (acc ++ y).length ≤ 16777216 then r (acc ++ y) p.2 else none
  | _ => none
def SemJ (K : PySem.W.Frag) (ts : List TE) (j : JD) : Prop := ∀ (G : Gd) (F : Hp) (e : HD.Env) (σ : St) (H : Hp) (acc out : Str) (e' : HD.Env) (Q : Str → Hp → Prop), Rep K G F e σ H → j acc e = some (out, e') →
  (∀ F' H', Rep K G F' e' σ H' → Same F F' → Q out H') → tJs ts acc σ H Q
def PJd (X : Cx) (K : PySem.W.Frag) (es : List Expr) (j : JD) : Prop := ∃ ts, PJ X es ts ∧ SemJ K ts j
theorem pjd_nil : PJd X K [] dJ0 := ⟨_, .nil, fun G F e σ H acc out e' Q rep hf q => by
  cases hf
  exact q F H rep (.refl _)⟩
theorem pjd_cons {e : Expr} {es : List Expr} {f : XD} {j : JD} (h : PEd X K e f) (hs : PJd X K es j) : PJd X K (e :: es) (dJ1 f j) := by
  obtain ⟨t, h, s⟩ := h
  obtain ⟨ts, hs, ss⟩ := hs
  refine ⟨_, .cons h hs, fun G F e σ H acc out e' Q rep hf q => ?_⟩
  unfold dJ1 at hf
  simp only [Option.bind_eq_some_iff] at hf
  obtain ⟨⟨r, e1⟩, h1, d, hd, hf⟩ := hf
  refine s G F e σ H r e1 _ rep h1 fun v F1 H1 rep1 s1 a1 => ?_
  have tp := a1.top rep1 hd
  cases d with
  | str y =>
    simp only at hf
    split at hf
    · rename_i hl
      refine ⟨y, tp.str, lim_le hl, ss G F1 e1 σ H1 _ out e' Q rep1 hf fun F2 H2 rep2 s2 => q F2 H2 rep2 (s1.trans s2)⟩
    · cases hf
  | _ => cases hf
def dJoin (j : JD) : XD := fun e => (j Str.empty e).map fun p => (.dat (.str p.1), p.2)
theorem ped_joined {v1 v2 : Expr} {rest : List Expr} {j : JD} (h : PJd X K (v1 :: v2 :: rest) j) : PEd X K (.JoinedStr (v1 :: v2 :: rest) pos) (dJoin j) := by
  obtain ⟨ts, h, s⟩ := h
  refine ⟨_, pe_joined h, fun G F e σ H r' e' Q rep hf q => ?_⟩
  unfold dJoin at hf
  simp only [Option.map_eq_some_iff] at hf
  obtain ⟨⟨out, e1⟩, h1, hf⟩ := hf
  cases hf
  exact s G F e σ H Str.empty out _ _ rep h1 fun F1 H1 rep1 s1 => q _ F1 H1 rep1 s1 (.str _)
theorem ped_joined1 {e : Expr} {f : XD} (h : PEd X K e f) : PEd X K (.JoinedStr [e] pos) f := by
  obtain ⟨t, h, s⟩ := h
  exact ⟨_, pe_joined1 h, s⟩
end
@[simp] theorem dFmt_ (f : XD) (e : HD.Env) : dFmt f e = (f e).bind fun p => (p.1.get p.2).bind fun d => (fmtD d).map fun y => (.dat (.str y), p.2) := id rfl
@[simp] theorem dJ0_ (acc : Str) (e : HD.Env) : dJ0 acc e = some (acc, e) := id rfl
@[simp] theorem dJoin_ (j : JD) (e : HD.Env) : dJoin j e = (j Str.empty e).map fun p => (.dat (.str p.1), p.2) := id rfl
def joinK (acc : Str) (r : JD) (e : HD.Env) : D → Option (Str × HD.Env)
  | .str y => if (acc ++ y).length ≤ 16777216 then r (acc ++ y) e else none
  | _ => none
@[simp] theorem dJ1_ (f : XD) (r : JD) (acc : Str) (e : HD.Env) : dJ1 f r acc e = (f e).bind fun p => (p.1.get p.2).bind (joinK acc r p.2) := by
  unfold dJ1
  congr 1
@[simp] theorem joinK_str (acc : Str) (r : JD) (e : HD.Env) (y : Str) : joinK acc r e (.str y) = if (acc ++ y).length ≤ 16777216 then r (acc ++ y) e else none := id rfl
end HD

/-! // by a number of any sign -/
namespace HD
open PySem PySem.Spec PyProof.Rows L2
def D.fdivA : D → D → Option D
  | .int a, .int b => if b ≠ 0 ∧ b.natAbs.log2 < 9000 then some (.int (a.fdiv b)) else none
  | _, _ => none
section
variable {X : Cx} {K : PySem.W.Frag} {k : Nat}
def CDivA (_ j : Int) : Prop := j ≠ 0 ∧ j.natAbs.log2 < 9000
theorem op_fdivA : OpR X (binaryOp .FloorDiv) (rI CDivA fun i j => .int (i.fdiv j)) := opI fun _ _ _ _ _ _ _ hc q => floordiv_int hc.1 q (.inl (PyProof.noPylong_of_log2 hc.2))
theorem d_fdivA : Op2 K (rI CDivA fun i j => .int (i.fdiv j)) D.fdivA := by
  intro F H v u x y z Q s a b hz q
  unfold D.fdivA at hz
  split at hz
  · split at hz
    · rename_i hc; cases hz; exact ⟨_, _, a.int, b.int, hc, q _ F H (.refl s) (.int _)⟩
    · cases hz
  · cases hz
end
end HD

/-! list(reversed(a list)) -/
namespace HD
open PySem PySem.Spec PyProof.Rows L2 RT
section
variable {prog : Program} {w : World} {A : Around} {E : Value → Shared → Prop} {s : Shared}
theorem extend_rev {R : Result → Shared → Prop} {it l : Addr} {items : Array Value} (hh : A.handled = none) (S : Addr) (res : Value) (c₀ : Nat) (hit : s.heap.IsRevIter it l ((items.size : Int) - 1)) (hl : s.heap.IsList l items) (hne : l ≠ it) (hn : items.size ≤ sizeLine)
    (hSi : S ≠ it) (hSl : S ≠ l) (hS : s.heap.get? S = some { cls := .type "list", data := .seq #[] c₀ })
    (hR : ∀ h' tk acc' c', (∀ b o, b ≠ S → b ≠ it → s.heap.get? b = some o → h'.get? b = some o) → h'.get? S = some { cls := .type "list", dict := none, data := .seq acc' c', slots := #[] } →
      ItemsOf (fun i v => items[items.size - 1 - i]? = some v) acc' items.size → R (.ok (.ret res)) { s with heap := h', toks := tk }) :
    wpAny (model prog w) A.in1 (Builtin.List.listExtendWith (.ref S) (.ref it) res)
      (fun fin s' => match fin with | .done f => R (.ok f) s' | .again c' => c'.quiet = true ∧ codeAny (model prog w) A c' R s') (fun e s' => R (.error e) s') s := by
  have W := (Walks.listRev (prog := prog) (w := w) (A := A.in1) hh it l hne items).toS
  have hSf : S ∉ [it, l] := by simp only [List.mem_cons, List.not_mem_nil, or_false, not_or]; exact ⟨hSi, hSl⟩
  have hT : s.TypeIs (.ref it) "list_reverseiterator" := hit.typeIs
  have h1 : Builtin.List.listSameRef (.ref S) (.ref it) = false := by simp [Builtin.List.listSameRef, hSi]
  unfold Builtin.List.listExtendWith
  refine wpAny_bind (wpAny_typeOf hT ?_)
  rw [if_neg (by rw [h1]; decide)]
  refine wpAny_bind (wpAny_pyIter_revIter hit ?_)
  refine wpAny_bind (wpAny_holding ?_)
  unfold Builtin.List.listLengthHint
  refine wpAny_bind (wpAny_specialOf hT nolen_lri ?_)
  show wpAny _ A.in1 (specialOf (Value.ref it) (Str.ofString "__length_hint__") >>= _) _ _ _
  refine wpAny_bind (wpAny_specialOf hT hint_lri ?_)
  generalize hid : ("list_reverseiterator.__length_hint__" : String) = id0
  wp_delta
  rw [show splitId id0 = some ("list_reverseiterator", "__length_hint__") from by subst hid; decide +kernel]
  subst hid
  refine wpAny_bind (wpAny_isInstance (b := true) hT (by rw [isSubtype_type]; kernel_rfl) ?_)
  refine wpAny_pure ?_
  rw [if_neg (by decide)]
  have e0 : ((items.size : Nat) : Int) - 1 - ((0 : Nat) : Int) = (items.size : Int) - 1 := by omega
  refine wpAny_pure ⟨plainId_quiet F.plain_extend_loop _, codeAny_extend_loopS W hn _ hSf _ items.size 0 _ _ _ rfl (Nat.zero_le _) ⟨Nat.zero_le _, by rw [e0]; exact hit, hl⟩ hS (ItemsOf.nil _) fun s' acc' c' hm hS' hacc => ?_⟩
  rw [Moved.eq_with hm]
  refine hR s'.heap s'.toks acc' c' (fun b o hb hb2 e => hm.heap b o (fun hmem => ?_) e) hS' hacc
  rcases List.mem_cons.mp hmem with e' | hmem
  · exact hb e'
  · exact hb2 (List.mem_singleton.mp hmem)
theorem list_init_rev {R : Result → Shared → Prop} {it l : Addr} {items : Array Value} (hh : A.handled = none) (S : Addr) (hit : s.heap.IsRevIter it l ((items.size : Int) - 1)) (hl : s.heap.IsList l items) (hne : l ≠ it) (hn : items.size ≤ sizeLine)
    (hSi : S ≠ it) (hSl : S ≠ l) (hS : s.heap.get? S = some { cls := .type "list", data := .seq #[] })
    (hR : ∀ h' tk acc' c', (∀ b o, b ≠ S → b ≠ it → s.heap.get? b = some o → h'.get? b = some o) → h'.get? S = some { cls := .type "list", dict := none, data := .seq acc' c', slots := #[] } →
      ItemsOf (fun i v => items[items.size - 1 - i]? = some v) acc' items.size → R (.ok (.ret .none)) { s with heap := h', toks := tk }) :
    wpAny (model prog w) A.in1 (Builtin.«list.__init__» ⟨[.ref S, .ref it], []⟩)
      (fun fin s' => match fin with | .done f => R (.ok f) s' | .again c' => c'.quiet = true ∧ codeAny (model prog w) A c' R s') (fun e s' => R (.error e) s') s := by
  show wpAny _ _ (do let old ← Builtin.List.listItems (.ref S); Builtin.List.listUpdate (.ref S) (fun _ => #[]); letGo old.toList.reverse; Builtin.List.listExtendWith (.ref S) (.ref it) .none) _ _ s
  refine wpAny_bind ?_
  unfold Builtin.List.listItems
  refine wpAny_bind (wpAny_seqItems hS rfl (wpAny_pure ?_))
  show wpAny _ _ (updateSeq S (fun _ => #[]) >>= fun _ => letGo (#[] : Array Value).toList.reverse >>= fun _ => Builtin.List.listExtendWith (.ref S) (.ref it) .none) _ _ s
  refine wpAny_bind (wpAny_updateSeq hS rfl ?_)
  have hS₂ := Heap.get?_update_self (Obj.mapSeq (fun _ => (#[] : Array Value))) hS rfl
  have oth : ∀ b o, b ≠ S → s.heap.get? b = some o → (s.heap.update S (Obj.mapSeq (fun _ => (#[] : Array Value)))).get? b = some o :=
    fun b o hb e => (Heap.get?_update_other _ _ (Ne.symm hb)).trans e
  refine wpAny_bind (wpAny_letGo ?_)
  refine extend_rev hh S .none _ (hit.at fun o e => oth it o (Ne.symm hSi) e) ?_ hne hn hSi hSl hS₂ fun h' tk acc' c' hk hS' hacc => ?_
  · obtain ⟨o, ho, hc⟩ := hl
    exact ⟨o, oth l o (Ne.symm hSl) ho, hc⟩
  · exact hR h' tk acc' c' (fun b o hb hb2 e => hk b o hb hb2 (oth b o hb e)) hS' hacc
theorem call_list_rev {Q : Value → Shared → Prop} {it l : Addr} {items : Array Value} (hh : A.handled = none) (hit : s.heap.IsRevIter it l ((items.size : Int) - 1)) (hl : s.heap.IsList l items) (hne : l ≠ it) (hn : items.size ≤ sizeLine)
    (hQ : ∀ h' tk acc' c', (∀ b o, b ≠ it → s.heap.get? b = some o → h'.get? b = some o) →
      h'.get? s.heap.objs.size = some { cls := .type "list", dict := none, data := .seq acc' c', slots := #[] } → ItemsOf (fun i v => items[items.size - 1 - i]? = some v) acc' items.size → Q (.ref s.heap.objs.size) { s with heap := h', toks := tk }) :
    wpAny (model prog w) A (call (.type "list") [.ref it]) Q E s := by
  refine callType_codes (Q₁ := fun obj s₁ => obj = .ref s.heap.objs.size ∧ s₁ = { s with heap := s.heap.push { cls := .type "list", data := .seq #[] } }) F.called_list (F.typeCall_list_1 _) F.entry_list_init
    (code_list_new _ ⟨rfl, rfl⟩) fun obj s₁ h₁ => ?_
  obtain ⟨rfl, rfl⟩ := h₁
  have hS : (s.heap.push { cls := .type "list", data := .seq #[] }).get? s.heap.objs.size = some { cls := .type "list", data := .seq #[] } := Heap.get?_push_size _ rfl
  obtain ⟨oi, hoi, _⟩ := id hit
  obtain ⟨ol, hol, _⟩ := id hl
  have hSi : s.heap.objs.size ≠ it := Nat.ne_of_gt (Heap.lt_size hoi)
  have hSl : s.heap.objs.size ≠ l := Nat.ne_of_gt (Heap.lt_size hol)
  refine ⟨⟨_, hS, rfl⟩, F.args_list_init_2 _ _, list_init_rev (A := A.in1) hh _ (hit.at fun o e => Heap.get?_push_of_some _ e) (hl.push _) hne hn hSi hSl hS fun h' tk acc' c' hk hS' hacc => ?_⟩
  exact ⟨rfl, hQ h' tk acc' c' (fun b o hb e => hk b o (Nat.ne_of_lt (Heap.lt_size e)) hb (Heap.get?_push_of_some _ e)) hS' hacc⟩
end
/-- list(reversed(x)), x a list: a new list -/
def tLstRev (K : PySem.W.Frag) (te : TE) : TE := fun σ H Q => te σ H fun v H1 => ∃ (a : Addr) (xs : List V), v = .ref a ∧ SqL K H1 a xs ∧ ∀ q, H1 q = none → Q (.ref q) (upd H1 q (.lst xs.reverse))
section
variable {X : Cx}
theorem pe_lstRev {e : Expr} {te : TE} {p p2 pos pos2 : Pos} (hc : X.calm = true) (hg : Gl X "list") (hm : X.mg "list" = none) (hg2 : Gl X "reversed") (hm2 : X.mg "reversed" = none) (he : PE X e te)
    (hs : starEach [e] X.env = (false, eval e X.env) :: starEach [] X.env := by rfl)
    (hs2 : starEach [.Call (.Name "reversed" p2) [e] [] pos2] X.env = (false, eval (.Call (.Name "reversed" p2) [e] [] pos2) X.env) :: starEach [] X.env := by rfl) :
    PE X (.Call (.Name "list" p) [.Call (.Name "reversed" p2) [e] [] pos2] [] pos) (tLstRev X.K te) := by
  refine ⟨fun pins s σ H Q I h => ?_⟩
  refine Call_ (ld_blt I hg hm boot_list (PyProof.Rows.callWith_type1 (args_cons (Call_ (ld_blt I hg2 hm2 PyProof.Rows.boot_reversed (PyProof.Rows.callWith_type1 (args_cons (thn (he.run pins s σ H _ I h) fun u s1 ⟨v, H1, I1, r1, q1⟩ => args_nil ?_) hs) hs rfl))) hs2) hs2 rfl))
  obtain ⟨a, xs, ev, hq, q⟩ := q1
  subst ev
  obtain rfl : u = Value.ref a := r1
  obtain ⟨its, rv, p', hz⟩ := I1.list hq
  refine call_reversed_list p'.isList (args_nil ?_)
  have k0 : ∀ b o, s1.heap.get? b = some o → (s1.heap.push (revObj a ((its.toArray.size : Int) - 1))).get? b = some o := fun b o e => Heap.get?_push_of_some _ e
  have I2 : Inv X pins σ H1 { s1 with heap := s1.heap.push (revObj a ((its.toArray.size : Int) - 1)) } := I1.kept (t' := s1.toks) k0
  obtain ⟨f0, f1, f2, f3, f4, f5⟩ := I1.fpOk (H' := H1) (b := s1.heap.objs.size) (Nat.le_refl _) (I1.hok.fresh (Nat.le_refl _))
  have hl := p'.isList
  obtain ⟨ol, hol, _⟩ := id hl
  have hne : a ≠ s1.heap.objs.size := Nat.ne_of_lt (Heap.lt_size hol)
  have hn : its.toArray.size ≤ sizeLine := by rw [List.size_toArray, ← rv.length]; exact hz
  refine call_list_rev (s := { s1 with heap := s1.heap.push (revObj a ((its.toArray.size : Int) - 1)) }) (I1.ok.hd hc) ⟨_, Heap.get?_push_size _ rfl, rfl, rfl⟩ (hl.push _) hne hn fun h' tk acc c' hk hS' hi => ?_
  have hsz : s1.heap.objs.size ≤ (s1.heap.push (revObj a ((its.toArray.size : Int) - 1))).objs.size := by simp [Heap.push]
  have new : ObjOk X.prog X.w (upd H1 (s1.heap.push (revObj a ((its.toArray.size : Int) - 1))).objs.size (.lst xs.reverse)) h' (s1.heap.push (revObj a ((its.toArray.size : Int) - 1))).objs.size (.lst xs.reverse) :=
    ⟨by rw [List.length_reverse]; exact hz, acc.toList, c', vals_rev rv hi, by rw [Array.toArray_toList]; exact hS'⟩
  have I3 : Inv X pins σ (upd H1 (s1.heap.push (revObj a ((its.toArray.size : Int) - 1))).objs.size (.lst xs.reverse)) { s1 with heap := h', toks := tk } :=
    I1.turnedNew (ch := [s1.heap.objs.size]) (fun b o hb e => hk b o (fun z => hb (by simp [z])) (k0 b o e)) (fun b hb => by
      have e' : b = s1.heap.objs.size := by simpa using hb
      subst e'
      exact ⟨f0, f1, f2, f3, f4, f5⟩) hsz new
  exact ⟨.ref (s1.heap.push (revObj a ((its.toArray.size : Int) - 1))).objs.size, _, I3, rfl, q _ (I1.hok.fresh hsz)⟩
end
end HD
namespace HD
open PySem PySem.Spec PyProof.Rows L2
def dListRev (fa : XD) : ND := fun e => (fa e).bind fun p => (p.1.get p.2).bind fun d => match d with
  | .list ds => some (.list ds.reverse, p.2)
  | _ => none
section
variable {X : Cx} {K : PySem.W.Frag} {k : Nat} {a : Expr} {fa : XD} {p p2 pos pos2 : Pos}
theorem pnd_lstRev (g : Good X K k) (hg : Gl X "list") (hm : X.mg "list" = none) (hg2 : Gl X "reversed") (hm2 : X.mg "reversed" = none) (ha : PEd X K a fa) (hs : starEach [a] X.env = (false, eval a X.env) :: starEach [] X.env := by rfl)
    (hs2 : starEach [.Call (.Name "reversed" p2) [a] [] pos2] X.env = (false, eval (.Call (.Name "reversed" p2) [a] [] pos2) X.env) :: starEach [] X.env := by rfl) :
    PNd X K (.Call (.Name "list" p) [.Call (.Name "reversed" p2) [a] [] pos2] [] pos) (dListRev fa) := by
  obtain ⟨t, ha, sa⟩ := ha
  refine ⟨_, pe_lstRev g.calm hg hm hg2 hm2 ha hs hs2, fun G F e σ H d e' Q rep hf q => ?_⟩
  unfold dListRev at hf
  simp only [Option.bind_eq_some_iff] at hf
  obtain ⟨⟨r, e1⟩, h1, x, hx, h3⟩ := hf
  cases x with
  | list ds =>
    cases h3
    refine sa G F e σ H r _ _ rep h1 fun v F1 H1 rep1 s1 a1 => ?_
    have tp := a1.top rep1 hx
    obtain ⟨p', xs, rfl, b1, b2⟩ := tp.list rep1.sub
    rw [g.K]
    refine ⟨p', xs, rfl, .of b1, fun r hr => ?_⟩
    obtain ⟨r1, f1⟩ := rep1.new hr (Own.lst (AtL.rev b2))
    exact q r F1 _ r1 s1 f1
  | _ => cases h3
end
/-! x[i] op= e on a list of one's own -/
theorem get_list {X : Cx} : PGet X (rIxL X.K) := by
  intro pins s σ H x y v u Q I rx ry h
  obtain ⟨p, xs, i, z, rfl, rfl, hq, he, q⟩ := h
  cases rx
  obtain ⟨t, rfl⟩ := ry
  obtain ⟨its, r, pl, hz⟩ := I.list hq
  obtain ⟨j, h1, h2, h3, h4, h5⟩ := atI_get he
  obtain ⟨w, ew, rw'⟩ := r.get h2
  have hl := r.length
  have hn := line63
  have fin : EP X pins σ Q w s := ⟨z, H, I, rw', q⟩
  by_cases h0 : 0 ≤ i
  · have hj : i.toNat = j := by
      rw [seqIndex_of h0 h5] at h1
      exact Option.some.inj h1
    exact wpAny_getItem_list pl.isList h0 (by omega) (by rw [hj]; simpa using ew) fin
  · have hj : (i + (its.toArray.size : Int)).toNat = j := by
      rw [seqIndex_neg (by omega) h4] at h1
      rw [List.size_toArray, ← hl]
      exact Option.some.inj h1
    exact wpAny_getItem_list_neg pl.isList (by omega) (by rw [List.size_toArray] <;> omega) (by omega) (by rw [hj]; simpa using ew) fin
def dAugIx (op : D → D → Option D) (f fo fi : XD) : SD := fun e => (fo e).bind fun r => match r.1 with
  | .slot j => (fi r.2).bind fun s => match s.1 with
    | .dat di => (cellAt s.2 j).bind fun d => match d with
      | .list ds => (D.ix (.list ds) di).bind fun x => (f s.2).bind fun y => (y.1.get y.2).bind fun dy => (op x dy).bind fun z => (cellAt y.2 j).bind fun d2 => (D.setIx d2 di z).bind fun w => (setH y.2 j w).map .nx
      | _ => none
    | .slot _ => none
  | .dat _ => none
section
variable {X : Cx} {K : PySem.W.Frag} {k : Nat} {o i ex : Expr} {f fo fi : XD} {pos tpos : Pos}
theorem psd_augIx {op : Operator} {r : R2} {g : D → D → Option D} (gd : Good X K k) (hop : OpR X (inplaceOp op) r) (h2 : Op2 K r g) (h : PEd X K ex f) (ho : PEd X K o fo) (hi : PEd X K i fi)
    (ha : ∀ ov iv new, augStore i ov iv new = (do holding [new, ov, iv] (setItem ov iv new); release [new, ov, iv] []; pure .next) := by intros; rfl) : PSd X K (.AugAssign (.Subscript o i tpos) op ex pos) (dAugIx g f fo fi) := by
  obtain ⟨t1, h, s⟩ := h
  obtain ⟨t2, ho, so⟩ := ho
  obtain ⟨t3, hi, si⟩ := hi
  refine ⟨_, ps_augS ho hi get_list h (tip := r) (fun pins s σ H x y v u Q I rx ry q => hop pins s σ H x y v u Q I rx ry q) set_list ha, fun G F e σ H out Dn rep hf q => ?_⟩
  unfold dAugIx at hf
  simp only [Option.bind_eq_some_iff] at hf
  obtain ⟨⟨ro, e1⟩, hf1, hf⟩ := hf
  cases ro with
  | dat _ => cases hf
  | slot j =>
    simp only [Option.bind_eq_some_iff] at hf
    obtain ⟨⟨ri, e2⟩, hf2, hf⟩ := hf
    cases ri with
    | slot _ => cases hf
    | dat di =>
      simp only [Option.bind_eq_some_iff] at hf
      obtain ⟨d, hd, hf⟩ := hf
      cases d with
      | list ds =>
        simp only [Option.bind_eq_some_iff, Option.map_eq_some_iff] at hf
        obtain ⟨x, hx, ⟨ry, e3⟩, hf3, dy, hdy, z, hz, d2, hd2, w, hw, e5, hf5, rfl⟩ := hf
        refine so G F e σ H _ e1 _ rep hf1 fun ov F1 H1 rep1 ss1 a1 => ?_
        refine si G F1 e1 σ H1 _ e2 _ rep1 hf2 fun iv F2 H2 rep2 ss2 a2 => ?_
        obtain ⟨c, hc, hcd⟩ := cellAt_some hd
        obtain ⟨p, ob, q1, q2, q3, q4, _⟩ := rep2.own j c _ hc hcd
        have hov : ov = .ref p := by have := a1.1; rw [q1] at this; cases this; rfl
        subst hov
        have hat : At K F2 iv di := a2
        cases di with
        | int ii =>
          have hiv : iv = .int ii := by cases hat; rfl
          subst hiv
          cases q3 with
          | lst b =>
            rename_i xs
            obtain ⟨v, h3, h4⟩ := b.atI hx
            rw [gd.K]
            refine ⟨p, xs, ii, v, rfl, rfl, .of q2, h3, ?_⟩
            refine s G F2 e2 σ H2 ry e3 _ rep2 hf3 fun yv F3 H3 rep3 ss3 a3 => ?_
            refine h2 F3 H3 v yv x dy z _ rep3.sub (.at (h4.mono ss3)) (a3.top rep3 hdy) hz fun zv F4 H4 ad aw => ?_
            have rep4 := rep3.adds ad
            obtain ⟨c2, hc2, hcd2⟩ := cellAt_some hd2
            obtain ⟨p2, ob2, r1, r2, r3, r4, _⟩ := rep4.own j c2 d2 hc2 hcd2
            have hp : p2 = p := by rw [q1] at r1; cases r1; rfl
            subst hp
            refine d_setIx F4 H4 p2 ob2 (.int ii) zv d2 (.int ii) z w _ rep4.sub r2 r3 (.at (.int ii)) aw hw fun o' ho' => ?_
            exact q σ F4 _ (rep4.write r1 (o := ob2) ho' hf5) (ss1.trans (ss2.trans (ss3.trans ad.ff)))
        | _ => cases hx
      | _ => cases hf
end
end HD
namespace HD
open PySem PySem.Spec PyProof.Rows L2
def revK (e : HD.Env) : D → Option (D × HD.Env)
  | .list ds => some (.list ds.reverse, e)
  | _ => none
@[simp] theorem revK_ (e : HD.Env) (ds : List D) : revK e (.list ds) = some (.list ds.reverse, e) := id rfl
@[simp] theorem dListRev_ (fa : XD) (e : HD.Env) : dListRev fa e = (fa e).bind fun p => (p.1.get p.2).bind (revK p.2) := by
  unfold dListRev
  congr 1
def augK3 (op : D → D → Option D) (f : XD) (e : HD.Env) (j : Nat) (di : D) : D → Option Out
  | .list ds => (D.ix (.list ds) di).bind fun x => (f e).bind fun y => (y.1.get y.2).bind fun dy => (op x dy).bind fun z => (cellAt y.2 j).bind fun d2 => (D.setIx d2 di z).bind fun w => (setH y.2 j w).map .nx
  | _ => none
def augK2 (op : D → D → Option D) (f : XD) (j : Nat) (e : HD.Env) : R → Option Out
  | .dat di => (cellAt e j).bind (augK3 op f e j di)
  | .slot _ => none
def augK1 (op : D → D → Option D) (f fi : XD) (e : HD.Env) : R → Option Out
  | .slot j => (fi e).bind fun s => augK2 op f j s.2 s.1
  | .dat _ => none
@[simp] theorem augK3_ (op : D → D → Option D) (f : XD) (e : HD.Env) (j : Nat) (di : D) (ds : List D) : augK3 op f e j di (.list ds) = (D.ix (.list ds) di).bind fun x => (f e).bind fun y => (y.1.get y.2).bind fun dy => (op x dy).bind fun z => (cellAt y.2 j).bind fun d2 => (D.setIx d2 di z).bind fun w => (setH y.2 j w).map .nx := id rfl
@[simp] theorem augK2_ (op : D → D → Option D) (f : XD) (j : Nat) (e : HD.Env) (di : D) : augK2 op f j e (.dat di) = (cellAt e j).bind (augK3 op f e j di) := id rfl
@[simp] theorem augK1_ (op : D → D → Option D) (f fi : XD) (e : HD.Env) (j : Nat) : augK1 op f fi e (.slot j) = (fi e).bind fun s => augK2 op f j s.2 s.1 := id rfl
@[simp] theorem dAugIx_ (op : D → D → Option D) (f fo fi : XD) (e : HD.Env) : dAugIx op f fo fi e = (fo e).bind fun r => augK1 op f fi r.2 r.1 := by
  unfold dAugIx
  congr 1
end HD

/-! for x in reversed(a text) -/
namespace HD
open PySem PySem.Spec PyProof.Rows L2 RT
theorem norev_str : typeLookup (.type "str") "__reversed__" = pure none := by rw [typeLookup_type, builtinLookup_eq_fast]; kernel_rfl
theorem get_str_slot : typeLookup (.type "str") "__getitem__" = pure (some (.builtin "str.__getitem__")) := by rw [typeLookup_type, builtinLookup_eq_fast]; kernel_rfl
theorem sub_str_dict0 : isSubtype (.type "str") (.type "dict") = pure false := by rw [isSubtype_type]; kernel_rfl
def rxObj (x : Str) (t : Tok) (i : Int) : Obj := { cls := .type "reversed", data := .fields #[.str x t, rawInt i] }
/-- reversed(x), the next place i -/
def IsRx (h : Heap) (a : Addr) (x : Str) (t : Tok) (i : Int) : Prop := ∃ o, h.get? a = some o ∧ o.cls = .type "reversed" ∧ o.data = .fields #[.str x t, rawInt i]
theorem IsRx.at {h h' : Heap} {a : Addr} {x : Str} {t : Tok} {i : Int} (r : IsRx h a x t i) (e : ∀ o, h.get? a = some o → h'.get? a = some o) : IsRx h' a x t i := let ⟨o, ho, r⟩ := r; ⟨o, e _ ho, r⟩
section
variable {prog : Program} {w : World} {A : Around} {E : Value → Shared → Prop} {s : Shared}
theorem IsRx.typeIs {a : Addr} {x : Str} {t : Tok} {i : Int} (r : IsRx s.heap a x t i) : s.TypeIs (.ref a) "reversed" := let ⟨o, ho, hc, _⟩ := r; ⟨o, ho, hc⟩
theorem code_reversed_str {x : Str} {t : Tok} {Q₁ : Value → Shared → Prop} (hx : x.length ≤ sizeLine)
    (h : Q₁ (.ref s.heap.objs.size) { s with heap := s.heap.push (rxObj x t ((x.length : Int) - 1)), toks := s.toks + 1 + 1 }) :
    codeAny (model prog w) A (.call (.builtin "reversed.__new__") ⟨[.type "reversed", .str x t], []⟩) (wants Q₁ E) s := by
  have hT : s.TypeIs (.str x t) "str" := rfl
  have hn := line63
  refine codeAny_of_tree ?_
  show wpAny _ A.in1 (do checkBuiltinCall "reversed.__new__" ⟨[.type "reversed", .str x t], []⟩; again (.builtin "reversed.__new__" ⟨[.type "reversed", .str x t], []⟩)) _ _ s
  refine wpAny_bind (wpAny_of_eq (F.newCall_reversed_1 _) (wpAny_pure ⟨plainId_quiet F.plain_reversed_new _, codeAny_builtin F.entry_reversed_new ?_⟩))
  rw [Around.under_plainId F.plain_reversed_new _]
  unfold Builtin.«reversed.__new__»
  refine wpAny_bind (wpAny_of_eq (newClass_reversed _) ?_)
  try dsimp only
  refine wpAny_bind (wpAny_of_eq (a := ()) (by first | rfl | kernel_rfl) ?_)
  try dsimp only
  refine wpAny_bind (wpAny_of_eq (a := ()) (by first | rfl | kernel_rfl) ?_)
  try dsimp only
  refine wpAny_bind (wpAny_specialOf hT norev_str ?_)
  try dsimp only
  refine wpAny_bind ?_
  wp_delta
  refine wpAny_bind (wpAny_isInstance (T := "str") (U := "dict") (b := false) hT sub_str_dict0 ?_)
  try dsimp only
  try rw [if_neg Bool.false_ne_true]
  try dsimp only
  refine wpAny_bind (wpAny_specialOf hT get_str_slot ?_)
  try dsimp only
  try rw [if_pos (by decide +kernel)]
  refine wpAny_pure ?_
  try dsimp only
  try rw [if_neg (by decide)]
  try dsimp only
  refine wpAny_bind (len_str (by omega) ?_)
  refine wpAny_bind (wpAny_of_eq (a := some ((x.length : Nat) : Int)) rfl ?_)
  try dsimp only
  refine wpAny_bind ?_
  show wpAny _ _ (newObj (.type "reversed") (.fields #[.str x t, rawInt ((x.length : Int) - 1)])) _ _ _
  refine wpAny_newObj_type ?_
  exact wpAny_pure h
theorem call_reversed_str {x : Str} {t : Tok} {Q : Value → Shared → Prop} (hx : x.length ≤ sizeLine)
    (h : Q (.ref s.heap.objs.size) { s with heap := s.heap.push (rxObj x t ((x.length : Int) - 1)), toks := s.toks + 1 + 1 }) : wpAny (model prog w) A (call (.type "reversed") [.str x t]) Q E s := by
  refine callType_codes (Q₁ := fun obj s₁ => s₁.TypeIs obj "reversed" ∧ Q obj s₁) called_rt (F.typeCall_reversed_1 _) F.entry_object_init
    (code_reversed_str (A := A.in1) hx ⟨⟨_, Heap.get?_push_size _ rfl, rfl⟩, h⟩) fun obj s₁ h₁ => ?_
  exact ⟨h₁.1, F.args_object_init_2 obj _, object_init_meets called_rt.init.lookup called_rt.made (by decide) prog w A.in1 _ s₁ ⟨h₁.1, rfl, h₁.2⟩⟩
theorem next_rx_item {it : Addr} {x : Str} {t : Tok} {i c : Nat} {Q : Option Value → Shared → Prop} (hit : IsRx s.heap it x t (i : Int)) (hc : x.cps[i]? = some c) (hsz : x.length ≤ sizeLine)
    (hQ : ∀ h' u tk, IsRx h' it x t ((i : Int) - 1) → Heap.SameBut it s.heap h' → Q (some (.str ⟨#[c]⟩ u)) { s with heap := h', toks := tk }) : wpAny (model prog w) A (pyNext (.ref it)) Q E s := by
  obtain ⟨o, ho, hcl, hd⟩ := id hit
  have hi : i < x.length := (Array.getElem?_eq_some_iff.mp hc).1
  have hT : s.TypeIs (.str x t) "str" := rfl
  have hn := line63
  unfold pyNext
  refine wpAny_bind (wpAny_attempt (wpAny_callSpecial?_slot (name := Str.ofString "__next__") hit.typeIs slot_rt_next
    (wpAny_call_entry slot_rt_next hit.typeIs entry_rt_next ?_ (args_rt_next _))))
  unfold Builtin.«reversed.__next__»
  refine wpAny_bind (wpAny_of_eq (a := (Value.ref it, [])) rfl ?_)
  try dsimp only
  refine wpAny_bind (wpAny_field ho hd (x := .str x t) rfl ?_)
  try dsimp only
  refine wpAny_bind (wpAny_field ho hd (x := rawInt (i : Int)) rfl ?_)
  show wpAny _ _ (if (i : Int) < 0 then _ else _) _ _ s
  rw [if_neg (by omega)]
  try dsimp only
  refine wpAny_bind (wpAny_specialOf hT get_str_slot ?_)
  try dsimp only
  try rw [if_neg (by decide)]
  try dsimp only
  refine wpAny_bind (wpAny_mkInt ?_)
  refine wpAny_bind (wpAny_attempt ?_)
  have fin : seqIndex? (i : Int) x.length = some i := seqIndex_of (by omega) (by omega)
  refine getItem_str (s := { s with toks := s.toks + 1 }) (c := c) (by
    have e1 : decide ((i : Int) < -(2 ^ 63 : Int)) = false := decide_eq_false (by omega)
    have e2 : decide ((i : Int) ≥ 2 ^ 63) = false := decide_eq_false (by omega)
    rw [e1, e2, Bool.or_false]) (by rw [fin]; simpa using hc) ?_
  try dsimp only
  refine wpAny_bind (wpAny_field (s := { s with toks := s.toks + 1 + 1 }) ho hd (x := rawInt (i : Int)) rfl ?_)
  try dsimp only
  refine wpAny_bind (wpAny_setField (s := { s with toks := s.toks + 1 + 1 }) ho hd (by simp) ?_)
  first
  | refine wpAny_pure ⟨_, rfl, wpAny_pure (hQ _ _ _ ?_ (Heap.SameBut.update ..))⟩
  | refine wpAny_bind (wpAny_pure (wpAny_pure ⟨_, rfl, wpAny_pure (hQ _ _ _ ?_ (Heap.SameBut.update ..))⟩))
  exact ⟨_, Heap.get?_update_self _ ho (Obj.isFreed_of_fields (Obj.data_mapFields hd _)), (Obj.cls_mapFields ..).trans hcl, by
    rw [Obj.data_mapFields hd]; simp⟩
theorem next_rx_end {it : Addr} {x : Str} {t : Tok} {Q : Option Value → Shared → Prop} (hh : A.handled = none) (hit : IsRx s.heap it x t (-1))
    (hQ : ∀ h', Heap.ExtBut it s.heap h' → Q none { s with heap := h' }) : wpAny (model prog w) A (pyNext (.ref it)) Q E s := by
  obtain ⟨o, ho, hc, hd⟩ := id hit
  unfold pyNext
  refine wpAny_bind (wpAny_attempt (wpAny_callSpecial?_slot (name := Str.ofString "__next__") hit.typeIs slot_rt_next
    (wpAny_call_entry slot_rt_next hit.typeIs entry_rt_next ?_ (args_rt_next _))))
  unfold Builtin.«reversed.__next__»
  refine wpAny_bind (wpAny_of_eq (a := (Value.ref it, [])) rfl ?_)
  try dsimp only
  refine wpAny_bind (wpAny_field ho hd (x := .str x t) rfl ?_)
  try dsimp only
  refine wpAny_bind (wpAny_field ho hd (x := rawInt (-1)) rfl ?_)
  show wpAny _ _ (if (-1 : Int) < 0 then _ else _) _ _ s
  rw [if_pos (by decide)]
  try dsimp only
  refine wpAny_bind (wpAny_rule ?_)
  refine wpAny_bind ?_
  wp_delta
  refine wpAny_bind (wpAny_setField ho hd (by simp) ?_)
  have ho2 := Heap.get?_update_self (Obj.mapFields (·.setIfInBounds 1 (rawInt (-1)))) ho (Obj.isFreed_of_fields (Obj.data_mapFields hd _))
  refine wpAny_setField (s := { s with heap := s.heap.update it (Obj.mapFields (·.setIfInBounds 1 (rawInt (-1)))) }) ho2 (Obj.data_mapFields hd _) (by simp) ?_
  try dsimp only
  first
  | show wpAny _ _ (newExc (.type "StopIteration") [] >>= _) _ _ _
  | (refine wpAny_bind ?_; show wpAny _ _ (newExc (.type "StopIteration") [] >>= _) _ _ _)
  | (refine wpAny_bind ?_; wp_delta; show wpAny _ _ (newExc (.type "StopIteration") [] >>= _) _ _ _)
  refine wpAny_bind ?_
  simp only [newExc, newTuple]
  refine wpAny_bind (wpAny_newObj_type ?_ (by size_fits))
  refine wpAny_bind (m := firstArgMember _ _) (wpAny_of_eq (a := Value.none) (by first | rfl | (simp only [firstArgMember]; rfl)) ?_)
  refine wpAny_newObj_type ?_ (by size_fits)
  simp only [raiseNew]
  refine wpAny_bind (wpAny_handled ?_)
  first | rw [show A.in1.handled = none from hh] | rw [hh]
  refine wpAny_bind (wpAny_pure (wpAny_throw ?_))
  refine wpAny_bind (wpAny_isInstance (T := "StopIteration") (b := true) ⟨_, Heap.get?_push_size _ rfl, rfl⟩ isSubtype_stop ?_)
  refine wpAny_pure (hQ _ ?_)
  refine ((?_ : Heap.ExtBut it s.heap _).push _).push _
  exact fun b ob hb e => (Heap.get?_update_other _ _ (Ne.symm hb)).trans ((Heap.get?_update_other _ _ (Ne.symm hb)).trans e)
theorem iter_rx {it : Addr} {x : Str} {t : Tok} {i : Int} {Q : Value → Shared → Prop} (hit : IsRx s.heap it x t i) (h : Q (.ref it) s) : wpAny (model prog w) A (pyIter (.ref it)) Q E s := by
  refine wpAny_pyIter_slot hit.typeIs slot_rt_iter (wpAny_call_entry slot_rt_iter hit.typeIs entry_rt_iter ?_ (args_rt_iter _))
  show wpAny _ _ (ret (.ref it)) _ _ s
  exact wpAny_pure ⟨_, rfl, "reversed", _, hit.typeIs, slot_rt_next.lookup, h⟩
end
/-- a text from its end -/
def Irx (x : Str) : It := ⟨fun i _ => i < x.length, fun i H v H' => H' = H ∧ ∃ c, x.cps[x.length - 1 - i]? = some c ∧ v = .str ⟨#[c]⟩, fun i _ => x.length ≤ i⟩
theorem turn_rx {P : Program} {w : World} {K : PySem.W.Frag} {tg : Expr} (it : Addr) (x : Str) (t : Tok) (hx : x.length ≤ sizeLine) : Turn P w K tg (Irx x) [it] it (fun i h => i ≤ x.length ∧ IsRx h it x t ((x.length : Int) - 1 - (i : Nat))) where
  mem := by simp
  obj := fun i h st b hb => by
    have e : b = it := by simpa using hb
    subst e
    obtain ⟨_, o, e, c, d⟩ := st
    exact ⟨o, e, fun v z => by rw [d] at z; cases z⟩
  keep := fun i h h' st k => ⟨st.1, st.2.at fun o e => k it (by simp) o e⟩
  item := by
    intro X hP hw hK hc i pins s σ H E I hf st hg
    subst hP hw hK
    have hin : i < x.length := hg
    obtain ⟨f0, f1, f2, f3, f4, f5⟩ := hf it (by simp)
    obtain ⟨_, hit⟩ := st
    have e1 : (x.length : Int) - 1 - ((i : Nat) : Int) = ((x.length - 1 - i : Nat) : Int) := by omega
    rw [e1] at hit
    have hlt : x.length - 1 - i < x.cps.size := by show _ < x.length; omega
    have hcx : x.cps[x.length - 1 - i]? = some x.cps[x.length - 1 - i] := Array.getElem?_eq_getElem hlt
    refine next_rx_item hit hcx hx fun h' u tk st' sb => ?_
    have e2 : ((x.length - 1 - i : Nat) : Int) - 1 = (x.length : Int) - 1 - ((i + 1 : Nat) : Int) := by omega
    rw [e2] at st'
    have I1 : Inv X pins σ H { s with heap := h', toks := tk } := I.turned (t' := tk) (fun b o hb e => (sb.2 b hb).trans e) f0 f1 f3 f4 f5
    obtain ⟨o, e, c, d⟩ := id st'
    exact ⟨_, rfl, go_of (s := { s with heap := h', toks := tk }) e c d (by decide) ⟨.str ⟨#[x.cps[x.length - 1 - i]]⟩, H, I1, ⟨u, rfl⟩, ⟨rfl, _, hcx, rfl⟩, ⟨hin, st'⟩, fun b hb => (hf b hb).1⟩⟩
  done := by
    intro X hP hw hK hc i pins s σ H E I hf st hg
    subst hP hw hK
    obtain ⟨f0, f1, f2, f3, f4, f5⟩ := hf it (by simp)
    obtain ⟨hin, hit⟩ := st
    have hge : x.length ≤ i := hg
    have e1 : (x.length : Int) - 1 - ((i : Nat) : Int) = -1 := by omega
    rw [e1] at hit
    exact next_rx_end (I.ok.hd hc) hit fun h' eb => ⟨rfl, I.turned (t' := s.toks) (fun b o hb e => eb b o hb e) f0 f1 f3 f4 f5⟩
  self := fun A i s Q E st h => iter_rx st.2 h
def iRevS (te : TE) : TI := fun σ H R => te σ H fun v H1 => ∃ x : Str, v = .str x ∧ x.length ≤ sizeLine ∧ R (Irx x) H1
section
variable {X : Cx} {tg : Expr}
theorem pi_revS {e : Expr} {te : TE} {p pos : Pos} (hg : Gl X "reversed") (hm : X.mg "reversed" = none) (he : PE X e te) (hs : starEach [e] X.env = (false, eval e X.env) :: starEach [] X.env := by rfl) : PI X tg (.Call (.Name "reversed" p) [e] [] pos) (iRevS te) := by
  refine ⟨fun pins s σ H R I h => ?_⟩
  refine Call_ (ld_blt I hg hm PyProof.Rows.boot_reversed (PyProof.Rows.callWith_type1 (args_cons (thn (he.run pins s σ H _ I h) fun u s1 ⟨v, H1, I1, r1, q1⟩ => args_nil ?_) hs) hs rfl))
  obtain ⟨x, ev, hx, q⟩ := q1
  subst ev
  obtain ⟨t, rfl⟩ := r1
  have e1 : ((x.length : Nat) : Int) - 1 = (x.length : Int) - 1 - ((0 : Nat) : Int) := by omega
  refine call_reversed_str hx (iter_rx (x := x) (t := t) (i := (x.length : Int) - 1) ⟨_, Heap.get?_push_size _ rfl, rfl, rfl⟩ ?_)
  refine pi_one (tk := s1.toks + 1 + 1) I1 _ (turn_rx _ x t hx) ⟨Nat.zero_le _, ?_⟩ q
  rw [← e1]
  exact ⟨_, Heap.get?_push_size _ rfl, rfl, rfl⟩
end
end HD
namespace HD
open PySem PySem.Spec PyProof.Rows L2 RT
def revSD : D → Option (List D)
  | .str x => if x.length ≤ 16777216 then some (chars x).reverse else none
  | _ => none
section
variable {X : Cx} {K : PySem.W.Frag} {k : Nat} {tg a : Expr} {f : XD} {p pos : Pos}
theorem chars_len (x : Str) : (chars x).length = x.length := by simp [chars, Str.length]
theorem itd_rx {F0 : Hp} {x : Str} : ItD K (Irx x) F0 (chars x).reverse where
  go := fun i d F H s s2 hd => by
    have := (List.getElem?_eq_some_iff.mp hd).1
    rw [List.length_reverse, chars_len] at this
    exact this
  yld := fun i d F H v H' s s2 hd hy => by
    obtain ⟨rfl, c, hc, rfl⟩ := hy
    refine ⟨F, .refl s2, ?_⟩
    have hlt := (List.getElem?_eq_some_iff.mp hd).1
    rw [List.length_reverse] at hlt
    have : d = .str ⟨#[c]⟩ := by
      rw [List.getElem?_reverse hlt, chars_len] at hd
      simp only [chars, List.getElem?_map, Array.getElem?_toList] at hd
      rw [hc] at hd
      simpa using hd.symm
    subst this
    exact .str _
  stop := fun i F H s s2 hl => by
    rw [List.length_reverse, chars_len] at hl
    exact hl
theorem pid_revS (hg : Gl X "reversed") (hm : X.mg "reversed" = none) (h : PEd X K a f) (hs : starEach [a] X.env = (false, eval a X.env) :: starEach [] X.env := by rfl) : PId X K tg (.Call (.Name "reversed" p) [a] [] pos) (dI revSD f) := by
  obtain ⟨t, h, s⟩ := h
  refine ⟨_, pi_revS hg hm h hs, fun G F e σ H ds e' R rep hf q => ?_⟩
  unfold dI at hf
  simp only [Option.bind_eq_some_iff, Option.map_eq_some_iff] at hf
  obtain ⟨⟨r, e1⟩, h1, ⟨d, e2⟩, h2, ds', h3, hf⟩ := hf
  cases hf
  refine s G F e σ H r e1 _ rep h1 fun v F1 H1 rep1 s1 a1 => ?_
  obtain ⟨F2, rep2, s2, a2⟩ := rep1.take a1 h2
  cases a2 with
  | str z =>
    have h4 : (if z.length ≤ 16777216 then some (chars z).reverse else none) = some ds := h3
    by_cases hl2 : z.length ≤ 16777216
    · rw [if_pos hl2] at h4
      cases h4
      exact ⟨_, rfl, lim_le hl2, q _ F2 H1 rep2 (s1.trans s2) itd_rx⟩
    · rw [if_neg hl2] at h4
      cases h4
  | _ => cases h3
end
@[simp] theorem revSD_ (x : Str) : revSD (.str x) = if x.length ≤ 16777216 then some (chars x).reverse else none := id rfl
end HD

namespace HD
open PySem PySem.Spec PyProof.Rows L2 RT
/-! two new things of one's own at once -/
def Gd.plus (G : Gd) (p : Addr) (o : HO) : Gd := { G with H0 := upd G.H0 p o }
section
variable {K : PySem.W.Frag} {G : Gd} {F F' H H' : Hp} {e e' : HD.Env} {σ σ' : St} {p p2 : Addr} {d d2 : D} {o : HO}
theorem Fresh.nads (rep : Rep K G F e σ H) (fr : Fresh K G F e σ H p d) : p ∉ G.ads := by
  intro hb
  obtain ⟨q', hq, rfl⟩ := List.mem_map.mp hb
  obtain ⟨h1, d', h2⟩ := rep.io q' hq
  exact fr.ne q'.1 _ d' h2 rfl h1
theorem Rep.rebase (rep : Rep K G F e σ H) (fr : Fresh K G F e σ H p d) (ho : H p = some o) : Rep K (G.plus p o) F e σ H where
  sub := rep.sub
  sub0 := rep.sub0
  fr := fun b x h => by
    by_cases hb : b = p
    · subst hb; rw [fr.f] at h; cases h
    · rcases rep.fr b x h with q | q
      · exact .inl q
      · refine .inr ?_
        show upd G.H0 p o b = none
        rw [upd_ne hb]; exact q
  frame := fun b x h hb => by
    have h : upd G.H0 p o b = some x := h
    rcases upd_some h with ⟨rfl, rfl⟩ | ⟨ne, h⟩
    · exact ho
    · exact rep.frame b x h hb
  len := rep.len
  dat := rep.dat
  own := fun i c d' h hc => by
    obtain ⟨q, o', h1, h2, h3, h4, h5, h6⟩ := rep.own i c d' h hc
    have hn : q ≠ p := fun z => fr.ne i c d' h hc (by rw [← z]; exact h1)
    refine ⟨q, o', h1, h2, h3, h4, fun z => ?_, h6⟩
    show upd G.H0 p o q = none
    rw [upd_ne hn]; exact h5 z
  sep := rep.sep
  io := rep.io
theorem Rep.unbase (rep : Rep K (G.plus p o) F e σ H) (h0 : G.H0 p = none) : Rep K G F e σ H where
  sub := rep.sub
  sub0 := rep.sub0
  fr := fun b x h => by
    rcases rep.fr b x h with q | q
    · exact .inl q
    · have q : upd G.H0 p o b = none := q
      by_cases hb : b = p
      · subst hb; exact .inr h0
      · rw [upd_ne hb] at q; exact .inr q
  frame := fun b x h hb => by
    have hn : b ≠ p := fun z => by rw [z, h0] at h; cases h
    exact rep.frame b x (by show upd G.H0 p o b = some x; rw [upd_ne hn]; exact h) hb
  len := rep.len
  dat := rep.dat
  own := fun i c d' h hc => by
    obtain ⟨q, o', h1, h2, h3, h4, h5, h6⟩ := rep.own i c d' h hc
    refine ⟨q, o', h1, h2, h3, h4, fun z => ?_, h6⟩
    have z := h5 z
    have z : upd G.H0 p o q = none := z
    by_cases hb : q = p
    · subst hb; exact h0
    · rwa [upd_ne hb] at z
  sep := rep.sep
  io := rep.io
/-- the first new thing, when the second is made -/
theorem Fresh.later2 (rep0 : Rep K G F e σ H) (fr : Fresh K G F e σ H p d) (ho : H p = some o) (rep : Rep K (G.plus p o) F' e' σ' H') (ss : Same F F') : Fresh K G F' e' σ' H' p d where
  ob := by
    obtain ⟨o', h1, h2⟩ := fr.ob
    rw [ho] at h1
    cases h1
    have hq : p ∉ G.ads := Fresh.nads rep0 fr
    exact ⟨o, rep.frame p o (by show upd G.H0 p o p = _; exact upd_same) hq, h2.mono ss⟩
  f := by
    cases z : F' p with
    | none => rfl
    | some x =>
      rcases rep.fr p x z with q | q
      · have := rep0.sub0 p x q
        rw [fr.f] at this; cases this
      · have q : upd G.H0 p o p = none := q
        rw [upd_same] at q; cases q
  h0 := fr.h0
  ne := fun i c d' h hc z => by
    obtain ⟨q, o', h1, h2, h3, h4, h5, h6⟩ := rep.own i c d' h hc
    rw [z] at h1
    cases h1
    cases c with
    | own d'' =>
      have h5 := h5 ⟨_, rfl⟩
      have h5 : upd G.H0 p o p = none := h5
      rw [upd_same] at h5; cases h5
    | io d'' => 
      have hq : p ∉ G.ads := Fresh.nads rep0 fr
      exact hq (List.mem_map.mpr ⟨_, h6 ⟨_, rfl⟩, rfl⟩)
    | un => cases hc
    | dat _ => cases hc
theorem Fresh.unbase (fr : Fresh K (G.plus p o) F e σ H p2 d2) : p2 ≠ p ∧ (Fresh K G F e σ H p2 d2) := by
  have h : upd G.H0 p o p2 = none := fr.h0
  have hn : p2 ≠ p := fun z => by rw [z, upd_same] at h; cases h
  rw [upd_ne hn] at h
  exact ⟨hn, fr.ob, fr.f, h, fr.ne⟩
theorem Fresh.setOwn (fr : Fresh K G F e σ H p2 d2) (hn : p2 ≠ p) {i : Nat} (h : setC e i (.own d) = some e') (hl : e.length = σ.length) : Fresh K G F e' (σ.set i (some (.ref p))) H p2 d2 := by
  obtain ⟨c0, h0, hio, rfl⟩ := setC_some h
  have hlt : i < e.length := (List.getElem?_eq_some_iff.mp h0).1
  refine ⟨fr.ob, fr.f, fr.h0, fun j c d' hj hc => ?_⟩
  by_cases e1 : j = i
  · subst e1
    rw [List.getElem?_set_self (by omega)]
    intro z
    cases z
    exact hn rfl
  · rw [List.getElem?_set_ne (Ne.symm e1)] at hj ⊢
    exact fr.ne j c d' hj hc
theorem Fresh.setDat (fr : Fresh K G F e σ H p2 d2) {v : V} {i : Nat} (h : setC e i (.dat d) = some e') : Fresh K G F e' (σ.set i (some v)) H p2 d2 := by
  obtain ⟨c0, h0, hio, rfl⟩ := setC_some h
  have hlt : i < e.length := (List.getElem?_eq_some_iff.mp h0).1
  refine ⟨fr.ob, fr.f, fr.h0, fun j c d' hj hc => ?_⟩
  by_cases e1 : j = i
  · subst e1
    rw [List.getElem?_set_self hlt] at hj
    cases hj
    cases hc
  · rw [List.getElem?_set_ne (Ne.symm e1)] at hj ⊢
    exact fr.ne j c d' hj hc
end
section
variable {X : Cx} {K : PySem.W.Frag} {k : Nat} {a b : Expr} {f g : ND} {fx : XD} {pos : Pos}
/-- x, y = a, b: both new, of one's own -/
def dParN (i j : Nat) (f g : ND) : SD := fun e => (f e).bind fun p => (g p.2).bind fun q => (setC q.2 i (.own p.1)).bind fun e1 => (setC e1 j (.own q.1)).map .nx
theorem psd_parN {i j : Nat} {x y : Str} {px py pt : Pos} {kt k2 pt2} (gd : Good X K k) (ha : PNd X K a f) (hb : PNd X K b g) (hi : X.N[i]? = some x := by rfl) (hj : X.N[j]? = some y := by rfl) (hij : i ≠ j := by decide)
    (hx : X.env.scope.names.lookup x = some .local := by rfl) (hy : X.env.scope.names.lookup y = some .local := by rfl)
    (hw : swappedStores [.Tuple [.Name x px, .Name y py] kt pt] (.Tuple [a, b] k2 pt2) X.env = pure (some [x, y]) := by rfl)
    (hs : swapsWithSole [.Tuple [.Name x px, .Name y py] kt pt] (.Tuple [a, b] k2 pt2) pos.line X.env = pure false := by rfl)
    (hs1 : starEach (a :: [b]) X.env = (false, eval a X.env) :: starEach [b] X.env := by rfl) (hs2 : starEach (b :: []) X.env = (false, eval b X.env) :: starEach [] X.env := by rfl) :
    PSd X K (.Assign [.Tuple [.Name x px, .Name y py] kt pt] (.Tuple [a, b] k2 pt2) pos) (dParN i j f g) := by
  obtain ⟨t1, ha, sa⟩ := ha
  obtain ⟨t2, hb, sb⟩ := hb
  refine ⟨_, ps_par gd.calm gd.nd hi hj hij hx hy (pa_cons ha (pa_cons hb pa_nil hs2) hs1) hw hs, fun G F e σ H o Dn rep hf q => ?_⟩
  unfold dParN at hf
  simp only [Option.bind_eq_some_iff, Option.map_eq_some_iff] at hf
  obtain ⟨⟨d1, e1⟩, hf1, ⟨d2, e2⟩, hf2, e3, hf3, e4, hf4, rfl⟩ := hf
  refine sa G F e σ H d1 e1 _ rep hf1 fun p1 F1 H1 rep1 ss1 fr1 => ?_
  obtain ⟨o1, ho, _⟩ := fr1.ob
  refine sb (G.plus p1 o1) F1 e1 σ H1 d2 e2 _ (rep1.rebase fr1 ho) hf2 fun p2 F2 H2 rep2 ss2 fr2 => ?_
  have fr1' := fr1.later2 rep1 ho rep2 ss2
  have rep2' := rep2.unbase fr1.h0
  obtain ⟨hn, fr2'⟩ := fr2.unbase
  refine ⟨_, _, rfl, ?_⟩
  exact q _ F2 H2 ((rep2'.setOwn fr1' hf3).setOwn (fr2'.setOwn hn hf3 rep2'.len) hf4) (ss1.trans ss2)
/-- x, y = a, b: the first as data, the second new, of one's own -/
def dParE (i j : Nat) (f : XD) (g : ND) : SD := fun e => (f e).bind fun p => (p.1.take p.2).bind fun r => (g r.2).bind fun q => (setC q.2 i (.dat r.1)).bind fun e1 => (setC e1 j (.own q.1)).map .nx
theorem psd_parE {i j : Nat} {x y : Str} {px py pt : Pos} {kt k2 pt2} (gd : Good X K k) (ha : PEd X K a fx) (hb : PNd X K b g) (hi : X.N[i]? = some x := by rfl) (hj : X.N[j]? = some y := by rfl) (hij : i ≠ j := by decide)
    (hx : X.env.scope.names.lookup x = some .local := by rfl) (hy : X.env.scope.names.lookup y = some .local := by rfl)
    (hw : swappedStores [.Tuple [.Name x px, .Name y py] kt pt] (.Tuple [a, b] k2 pt2) X.env = pure (some [x, y]) := by rfl)
    (hs : swapsWithSole [.Tuple [.Name x px, .Name y py] kt pt] (.Tuple [a, b] k2 pt2) pos.line X.env = pure false := by rfl)
    (hs1 : starEach (a :: [b]) X.env = (false, eval a X.env) :: starEach [b] X.env := by rfl) (hs2 : starEach (b :: []) X.env = (false, eval b X.env) :: starEach [] X.env := by rfl) :
    PSd X K (.Assign [.Tuple [.Name x px, .Name y py] kt pt] (.Tuple [a, b] k2 pt2) pos) (dParE i j fx g) := by
  obtain ⟨t1, ha, sa⟩ := ha
  obtain ⟨t2, hb, sb⟩ := hb
  refine ⟨_, ps_par gd.calm gd.nd hi hj hij hx hy (pa_cons ha (pa_cons hb pa_nil hs2) hs1) hw hs, fun G F e σ H o Dn rep hf q => ?_⟩
  unfold dParE at hf
  simp only [Option.bind_eq_some_iff, Option.map_eq_some_iff] at hf
  obtain ⟨⟨r1, e1⟩, hf1, ⟨d1, e1'⟩, hf1', ⟨d2, e2⟩, hf2, e3, hf3, e4, hf4, rfl⟩ := hf
  refine sa G F e σ H r1 e1 _ rep hf1 fun v F1 H1 rep1 ss1 a1 => ?_
  obtain ⟨F1', rep1', ss1', a1'⟩ := rep1.take a1 hf1'
  refine sb G F1' e1' σ H1 d2 e2 _ rep1' hf2 fun p2 F2 H2 rep2 ss2 fr2 => ?_
  refine ⟨_, _, rfl, ?_⟩
  exact q _ F2 H2 ((rep2.setDat (a1'.mono ss2) hf3).setOwn (fr2.setDat hf3) hf4) (ss1.trans (ss1'.trans ss2))
end
@[simp] theorem dParN_ (i j : Nat) (f g : ND) (e : HD.Env) : dParN i j f g e = (f e).bind fun p => (g p.2).bind fun q => (setC q.2 i (.own p.1)).bind fun e1 => (setC e1 j (.own q.1)).map .nx := id rfl
@[simp] theorem dParE_ (i j : Nat) (f : XD) (g : ND) (e : HD.Env) : dParE i j f g e = (f e).bind fun p => (p.1.take p.2).bind fun r => (g r.2).bind fun q => (setC q.2 i (.dat r.1)).bind fun e1 => (setC e1 j (.own q.1)).map .nx := id rfl
end HD

/-! for i, x in enumerate(a text) -/
namespace HD
open PySem PySem.Spec PyProof.Rows L2 RT
/-- the letters of a text, each in a new pair -/
def Ites (x : Str) : It := ⟨fun i _ => i < x.cps.size, fun i H v H' => ∃ T c, v = .ref T ∧ H T = none ∧ H' = upd H T (.tup [.int (i : Nat), .str ⟨#[c]⟩]) ∧ x.cps[i]? = some c, fun i _ => x.cps.size ≤ i⟩
theorem draws_str {prog : Program} {w : World} {A : Around} (hh : A.handled = none) (it : Addr) (x : Str) (t : Tok) :
    Draws prog w A it [it] x.cps.size (fun i v => ∃ c u, x.cps[i]? = some c ∧ v = .str ⟨#[c]⟩ u) (fun i h => h.IsStrIter it (strIterType x) x t i) := by
  cases ha : x.cps.all (· < 128)
  · simp only [strIterType, ha, Bool.false_eq_true, if_false]
    exact .strWide hh it x t
  · simp only [strIterType, ha, if_true]
    exact .strAscii hh it x t
theorem turn_enumS {P : Program} {w : World} {K : PySem.W.Frag} {elts : List Expr} {kk : Nat} {tpos : Pos} (e it : Addr) (x : Str) (t : Tok) :
    Turn P w K (.Tuple elts kk tpos) (Ites x) [e, it] e (fun i h => i ≤ x.cps.size ∧ (∃ old, IsEnum h e it ((i : Nat) : Int) old) ∧ h.IsStrIter it (strIterType x) x t i ∧ e ≠ it) where
  mem := by simp
  obj := fun i h st b hb => by
    obtain ⟨_, ⟨old, he⟩, ⟨o, ho, hc, hd⟩, _⟩ := st
    have e' : b = e ∨ b = it := by simpa using hb
    rcases e' with z | z
    · rw [z]; exact ⟨_, he, fun v q => nomatch q⟩
    · rw [z]; exact ⟨o, ho, fun v q => by rw [hd] at q; cases q⟩
  keep := fun i h h' st k => by
    obtain ⟨hi, ⟨old, he⟩, ⟨o, ho, r⟩, hne⟩ := st
    exact ⟨hi, ⟨old, k e (by simp) _ he⟩, ⟨o, k it (by simp) _ ho, r⟩, hne⟩
  item := by
    intro X hP hw hK hc i pins s σ H E I hf st hg
    subst hP hw hK
    obtain ⟨_, ⟨old, he⟩, hit, hne⟩ := st
    have hin : i < x.cps.size := hg
    have hel : e < s.heap.objs.size := Heap.lt_size he
    have hil : it < s.heap.objs.size := by obtain ⟨_, q, _⟩ := hit; exact Heap.lt_size q
    refine wpAny_pyNext_enum_itemD (A := X.A) (draws_str (A := X.A.in1) (I.ok.hd hc) it x t) he hit hin hne (by simpa using hne) fun v h' tk hv ho hit' hT hsz hk => ?_
    obtain ⟨c, u, hcx, rfl⟩ := hv
    refine ⟨_, rfl, wpAny_letOwnedTupleGo_enum (s := { s with heap := h', toks := tk + 1 }) ho fun h'' he' sb => ?_⟩
    have hT2 : h''.get? s.heap.objs.size = some { cls := .type "tuple", data := .seq #[.int i tk, .str ⟨#[c]⟩ u] } := (sb.2 _ (Nat.ne_of_gt hel)).trans hT
    have new : ObjOk X.prog X.w (upd H s.heap.objs.size (.tup [.int (i : Nat), .str ⟨#[c]⟩])) h'' s.heap.objs.size (.tup [.int (i : Nat), .str ⟨#[c]⟩]) :=
      ⟨by show 2 ≤ sizeLine; decide, [.int i tk, .str ⟨#[c]⟩ u], .cons ⟨_, rfl⟩ (.cons ⟨_, rfl⟩ .nil), ⟨_, hT2, rfl, _, rfl⟩⟩
    have I1 : Inv X pins σ (upd H s.heap.objs.size (.tup [.int (i : Nat), .str ⟨#[c]⟩])) { s with heap := h'', toks := tk + 1 } :=
      I.turnedNew (ch := [e, it]) (fun b ob hb q => (sb.2 b (fun z => hb (by simp [z]))).trans (hk b ob (fun z => hb (by simp [z])) (fun z => hb (by simp [z])) q)) hf (Nat.le_refl _) new
    refine ⟨.ref s.heap.objs.size, _, I1, rfl, ⟨_, c, rfl, I.hok.fresh (Nat.le_refl _), rfl, hcx⟩, ⟨hin, ⟨.str ⟨#[c]⟩ u, ?_⟩, ?_, hne⟩, fun b hb => ?_⟩
    · have e1 : ((i + 1 : Nat) : Int) = (i : Int) + 1 := by omega
      rw [e1]; exact he'
    · obtain ⟨o, ho2, r⟩ := hit'
      exact ⟨o, (sb.2 it (Ne.symm hne)).trans ho2, r⟩
    · have hb' : b < s.heap.objs.size := by
        have e' : b = e ∨ b = it := by simpa using hb
        rcases e' with z | z
        · rw [z]; exact hel
        · rw [z]; exact hil
      rw [upd_ne (Nat.ne_of_lt hb')]
      exact (hf b hb).1
  done := by
    intro X hP hw hK hc i pins s σ H E I hf st hg
    subst hP hw hK
    obtain ⟨hin, ⟨old, he⟩, hit, hne⟩ := st
    have hge : x.cps.size ≤ i := hg
    have hi : i = x.cps.size := Nat.le_antisymm hin hge
    subst hi
    obtain ⟨f0, f1, f2, f3, f4, f5⟩ := hf it (by simp)
    exact wpAny_pyNext_enum_endD (A := X.A) (draws_str (A := X.A.in1) (I.ok.hd hc) it x t) he hit fun h' eb => ⟨rfl, I.turned (t' := s.toks) (fun b o hb q => eb b o hb q) f0 f1 f3 f4 f5⟩
  self := fun A i s Q E st h => let ⟨_, ⟨_, he⟩, _⟩ := st; wpAny_pyIter_enum he h
def iEnumS (K : PySem.W.Frag) (ta : TA) : TI := fun σ H R => ta σ H fun vs H1 => ∃ x : Str, vs = [.str x] ∧ R (Ites x) H1
theorem pi_enumS {X : Cx} {e : Expr} {ta : TA} {p pos tpos : Pos} {elts : List Expr} {kk : Nat} (hg : Gl X "enumerate") (hm : X.mg "enumerate" = none) (ha : PA X [e] ta) (hs : starEach [e] X.env = [(false, eval e X.env)] := by rfl) :
    PI X (.Tuple elts kk tpos) (.Call (.Name "enumerate" p) [e] [] pos) (iEnumS X.K ta) := by
  refine ⟨fun pins s σ H R I h => ?_⟩
  refine Call_ (ld_blt I hg hm boot_enumerate (PyProof.Rows.callWith_type1 (thn (ha.run pos pins s σ H _ I h) fun us s1 ⟨vs, H1, I1, r1, q1⟩ => ?_) hs rfl))
  obtain ⟨x, ex, q⟩ := q1
  subst ex
  cases r1 with
  | cons r rr =>
    cases rr
    obtain ⟨t, rfl⟩ := r
    refine call_enumerate_str fun h' he hit hsz hk => wpAny_pyIter_enum he ?_
    have I2 : Inv X pins σ H1 { s1 with heap := h' } := I1.kept (t' := s1.toks) hk
    refine ⟨s1.heap.objs.size + 1, [s1.heap.objs.size + 1, s1.heap.objs.size], _, _, H1, rfl, I2, turn_enumS (s1.heap.objs.size + 1) s1.heap.objs.size x t, ⟨Nat.zero_le _, ⟨.none, he⟩, hit, Nat.succ_ne_self _⟩, fun b hb => ?_, q⟩
    have e' : b = s1.heap.objs.size + 1 ∨ b = s1.heap.objs.size := by simpa using hb
    have hle : s1.heap.objs.size ≤ b := by
      rcases e' with z | z
      · rw [z]; exact Nat.le_add_right _ _
      · rw [z]; exact Nat.le_refl _
    exact I1.fpOk hle (I1.hok.fresh hle)
def enumS1 : List D → Option (List D)
  | [.str x] => some (enumD 0 (chars x))
  | _ => none
section
variable {X : Cx} {K : PySem.W.Frag} {k : Nat} {tg a : Expr} {f : AD} {p pos : Pos}
theorem itd_enumS {F0 : Hp} {x : Str} : ItD K (Ites x) F0 (enumD 0 (chars x)) where
  go := fun i d F H s s2 hd => by
    have := (List.getElem?_eq_some_iff.mp hd).1
    rw [enumD_len, chars_len] at this
    exact this
  yld := fun i d F H v H' s s2 hd hy => by
    obtain ⟨T, c, rfl, hT, rfl, hy⟩ := hy
    rw [enumD_get] at hd
    simp only [chars, List.getElem?_map, Array.getElem?_toList] at hd
    rw [hy] at hd
    simp only [Option.map_some, Option.some.injEq, Nat.zero_add] at hd
    subst hd
    have ad : Adds F H (upd F T (.tup [.int (i : Nat), .str ⟨#[c]⟩])) _ := .new s2 hT
    exact ⟨_, ad, .tup upd_same (.cons (.int _) (.cons (.str _) .nil))⟩
  stop := fun i F H s s2 hl => by
    rw [enumD_len, chars_len] at hl
    exact hl
theorem pid_enumS {tpos : Pos} {elts : List Expr} {kk : Nat} (gd : Good X K k) (hg : Gl X "enumerate") (hm : X.mg "enumerate" = none) (ha : PAd X K [a] f) (hs : starEach [a] X.env = [(false, eval a X.env)] := by rfl) :
    PId X K (.Tuple elts kk tpos) (.Call (.Name "enumerate" p) [a] [] pos) (dIT enumS1 f) := by
  obtain ⟨t, ha, sa⟩ := ha
  refine ⟨_, pi_enumS hg hm ha hs, fun G F e σ H ds e' R rep hf q => ?_⟩
  unfold dIT at hf
  simp only [Option.bind_eq_some_iff, Option.map_eq_some_iff] at hf
  obtain ⟨⟨rs, e1⟩, h1, ⟨xs, e2⟩, hx, ds', h3, hf⟩ := hf
  cases hf
  refine sa G F e σ H rs e1 _ rep h1 fun vs F1 H1 rep1 s1 hl a1 => ?_
  obtain ⟨F2, rep2, s2, a2⟩ := rep1.takes hl a1 hx
  unfold enumS1 at h3
  split at h3
  · cases h3
    rename_i z hz
    dsimp only at hz
    subst hz
    cases a2 with
    | cons b1 b2 =>
      cases b2
      cases b1 with
      | str z => exact ⟨z, rfl, q _ F2 H1 rep2 (s1.trans s2) itd_enumS⟩
  · cases h3
end
@[simp] theorem enumS1_ (x : Str) : enumS1 [.str x] = some (enumD 0 (chars x)) := id rfl
end HD

/-! for x, y in zip(a text, a text) -/
namespace HD
open PySem PySem.Spec PyProof.Rows L2 RT
/-- the letters of two texts, in new pairs -/
def Itzs (x y : Str) : It := ⟨fun i _ => i < x.cps.size ∧ i < y.cps.size, fun i H v H' => ∃ T c d, v = .ref T ∧ H T = none ∧ H' = upd H T (.tup [.str ⟨#[c]⟩, .str ⟨#[d]⟩]) ∧ x.cps[i]? = some c ∧ y.cps[i]? = some d, fun i _ => x.cps.size ≤ i ∨ y.cps.size ≤ i⟩
theorem turn_zipS {P : Program} {w : World} {K : PySem.W.Frag} {elts : List Expr} {kk : Nat} {tpos : Pos} {z TI TO i1 i2 : Addr} (D : ZipSep2 z TI TO i1 i2 [i1] [i2]) (x y : Str) (t u : Tok) :
    Turn P w K (.Tuple elts kk tpos) (Itzs x y) [z, TI, TO, i1, i2] z (fun i h => i ≤ x.cps.size ∧ i ≤ y.cps.size ∧ IsZip h z TI TO .none ∧ IsTupOf2 h TI (.ref i1) (.ref i2) ∧ (∃ a b, IsTupOf2 h TO a b) ∧ h.IsStrIter i1 (strIterType x) x t i ∧ h.IsStrIter i2 (strIterType y) y u i) where
  mem := by simp
  obj := fun i h st c hc => by
    obtain ⟨_, _, hz, hTI, ⟨a, b, hTO⟩, ⟨o1, e1, _, d1⟩, ⟨o2, e2, _, d2⟩⟩ := st
    have e' : c = z ∨ c = TI ∨ c = TO ∨ c = i1 ∨ c = i2 := by simpa using hc
    rcases e' with q | q | q | q | q
    · rw [q]; exact ⟨_, hz, fun v q => nomatch q⟩
    · rw [q]; exact ⟨_, hTI, fun v q => nomatch q⟩
    · rw [q]; exact ⟨_, hTO, fun v q => nomatch q⟩
    · rw [q]; exact ⟨o1, e1, fun v q => by rw [d1] at q; cases q⟩
    · rw [q]; exact ⟨o2, e2, fun v q => by rw [d2] at q; cases q⟩
  keep := fun i h h' st k => by
    obtain ⟨l1, l2, hz, hTI, ⟨a, b, hTO⟩, ⟨o1, e1, r1⟩, ⟨o2, e2, r2⟩⟩ := st
    exact ⟨l1, l2, k z (by simp) _ hz, k TI (by simp) _ hTI, ⟨a, b, k TO (by simp) _ hTO⟩, ⟨o1, k i1 (by simp) _ e1, r1⟩, ⟨o2, k i2 (by simp) _ e2, r2⟩⟩
  item := by
    intro X hP hw hK hc i pins s σ H E I hf st hg
    subst hP hw hK
    obtain ⟨l1, l2, hz, hTI, ⟨a, b, hTO⟩, h1, h2⟩ := st
    have hzl : z < s.heap.objs.size := Heap.lt_size hz
    refine wpAny_pyNext_zipD2_item (A := X.A) D (draws_str (A := X.A.in1) (I.ok.hd hc) i1 x t) (draws_str (A := X.A.in1) (I.ok.hd hc) i2 y u) hz hTI hTO h1 h2 hg.1 hg.2 fun x1 x2 h' tk p1 p2 z' TO' h1' h2' hT hsz hk => ?_
    obtain ⟨c, v1, hcx, rfl⟩ := p1
    obtain ⟨d, v2, hdy, rfl⟩ := p2
    refine ⟨_, rfl, wpAny_letOwnedTupleGo_zip (s := { s with heap := h', toks := tk }) z' fun h'' z'' sb => ?_⟩
    have hT2 : h''.get? s.heap.objs.size = some { cls := .type "tuple", data := .seq #[.str ⟨#[c]⟩ v1, .str ⟨#[d]⟩ v2] } := (sb.2 _ (Nat.ne_of_gt hzl)).trans hT
    have new : ObjOk X.prog X.w (upd H s.heap.objs.size (.tup [.str ⟨#[c]⟩, .str ⟨#[d]⟩])) h'' s.heap.objs.size (.tup [.str ⟨#[c]⟩, .str ⟨#[d]⟩]) :=
      ⟨by show 2 ≤ sizeLine; decide, [.str ⟨#[c]⟩ v1, .str ⟨#[d]⟩ v2], .cons ⟨_, rfl⟩ (.cons ⟨_, rfl⟩ .nil), ⟨_, hT2, rfl, _, rfl⟩⟩
    have I1 : Inv X pins σ (upd H s.heap.objs.size (.tup [.str ⟨#[c]⟩, .str ⟨#[d]⟩])) { s with heap := h'', toks := tk } :=
      I.turnedNew (t' := tk) (ch := [z, TI, TO, i1, i2]) (fun c o hb q => (sb.2 c (fun q' => hb (by simp [q']))).trans (hk c o (fun q' => hb (by simp [q'])) (fun q' => hb (by simp [q'])) (fun q' => hb (by simp [q'])) (fun q' => hb (by simp [q'])) q)) hf (Nat.le_refl _) new
    refine ⟨.ref s.heap.objs.size, _, I1, rfl, ⟨_, c, d, rfl, I.hok.fresh (Nat.le_refl _), rfl, hcx, hdy⟩, ⟨hg.1, hg.2, z'', ?_, ⟨.str ⟨#[c]⟩ v1, .str ⟨#[d]⟩ v2, ?_⟩, ?_, ?_⟩, fun c hcm => ?_⟩
    · exact (sb.2 _ D.TIz).trans (hk _ _ D.TIz D.TITO D.TIi1 D.TIi2 hTI)
    · exact (sb.2 _ D.TOz).trans TO'
    · obtain ⟨o, ho, r⟩ := h1'
      exact ⟨o, (sb.2 _ D.zi1.symm).trans ho, r⟩
    · obtain ⟨o, ho, r⟩ := h2'
      exact ⟨o, (sb.2 _ D.zi2.symm).trans ho, r⟩
    · have hlt : c < s.heap.objs.size := by
        have e' : c = z ∨ c = TI ∨ c = TO ∨ c = i1 ∨ c = i2 := by simpa using hcm
        rcases e' with q | q | q | q | q
        · rw [q]; exact hzl
        · rw [q]; exact Heap.lt_size hTI
        · rw [q]; exact Heap.lt_size hTO
        · rw [q]; obtain ⟨_, e1, _⟩ := h1; exact Heap.lt_size e1
        · rw [q]; obtain ⟨_, e2, _⟩ := h2; exact Heap.lt_size e2
      rw [upd_ne (Nat.ne_of_lt hlt)]
      exact (hf c hcm).1
  done := by
    intro X hP hw hK hc i pins s σ H E I hf st hg
    subst hP hw hK
    obtain ⟨l1, l2, hz, hTI, ⟨a, b, hTO⟩, h1, h2⟩ := st
    have hend : i = x.cps.size ∨ i = y.cps.size := by
      rcases hg with q | q
      · exact .inl (by omega)
      · exact .inr (by omega)
    exact wpAny_pyNext_zipD2_end (A := X.A) D (draws_str (A := X.A.in1) (I.ok.hd hc) i1 x t) (draws_str (A := X.A.in1) (I.ok.hd hc) i2 y u) hz hTI hTO h1 h2 l1 l2 hend fun h' tk hk => ⟨rfl, I.turnedL (t' := tk) (ch := [z, TI, TO, i1, i2]) (fun c o hb q =>
      hk c o (fun q' => hb (by simp [q'])) (fun q' => hb (by simp [q'])) (fun q' => hb (by simp [q'])) (fun q' => hb (by simp [q'])) q) hf⟩
  self := fun A i s Q E st h => wpAny_pyIter_zip st.2.2.1 h
def iZipS (K : PySem.W.Frag) (ta : TA) : TI := fun σ H R => ta σ H fun vs H1 => ∃ x y : Str, vs = [.str x, .str y] ∧ R (Itzs x y) H1
theorem pi_zipS {X : Cx} {e e2 : Expr} {ta : TA} {p pos tpos : Pos} {elts : List Expr} {kk : Nat} (hg : Gl X "zip") (hm : X.mg "zip" = none) (ha : PA X [e, e2] ta)
    (hs : starEach [e, e2] X.env = (false, eval e X.env) :: starEach [e2] X.env := by rfl) (hpl : (backTo pos (starEach [e2] X.env)).any (·.1) = false := by rfl) :
    PI X (.Tuple elts kk tpos) (.Call (.Name "zip" p) [e, e2] [] pos) (iZipS X.K ta) := by
  refine ⟨fun pins s σ H R I h => ?_⟩
  refine Call_ (ld_blt I hg hm PyProof.Rows.boot_zip (PyProof.Rows.callWith_type1 (thn (ha.run pos pins s σ H _ I h) fun us s1 ⟨vs, H1, I1, r1, q1⟩ => ?_) hs hpl))
  obtain ⟨x, y, ex, q⟩ := q1
  subst ex
  cases r1 with
  | cons r rr =>
    cases rr with
    | cons r' rr =>
      cases rr
      obtain ⟨t, rfl⟩ := r
      obtain ⟨u, rfl⟩ := r'
      refine zip_begins2 (begins_text x t) (begins_text y u) trivial trivial fun h' hz hTI hTO h1 h2 hsz hk => wpAny_pyIter_zip hz ?_
      have I2 : Inv X pins σ H1 { s1 with heap := h' } := I1.kept (t' := s1.toks) hk
      have D : ZipSep2 (s1.heap.objs.size + 4) (s1.heap.objs.size + 2) (s1.heap.objs.size + 3) s1.heap.objs.size (s1.heap.objs.size + 1) [s1.heap.objs.size] [s1.heap.objs.size + 1] := by
        generalize s1.heap.objs.size = n
        constructor <;> simp
      refine ⟨s1.heap.objs.size + 4, [s1.heap.objs.size + 4, s1.heap.objs.size + 2, s1.heap.objs.size + 3, s1.heap.objs.size, s1.heap.objs.size + 1], _, _, H1, rfl, I2, turn_zipS D x y t u, ⟨Nat.zero_le _, Nat.zero_le _, hz, hTI, ⟨_, _, hTO⟩, ⟨_, h1, rfl, rfl⟩, ⟨_, h2, rfl, rfl⟩⟩, fun c hcm => ?_, q⟩
      have e' : c = s1.heap.objs.size + 4 ∨ c = s1.heap.objs.size + 2 ∨ c = s1.heap.objs.size + 3 ∨ c = s1.heap.objs.size ∨ c = s1.heap.objs.size + 1 := by simpa using hcm
      have hle : s1.heap.objs.size ≤ c := by
        rcases e' with z | z | z | z | z
        · rw [z]; exact Nat.le_add_right _ _
        · rw [z]; exact Nat.le_add_right _ _
        · rw [z]; exact Nat.le_add_right _ _
        · rw [z]; exact Nat.le_refl _
        · rw [z]; exact Nat.le_add_right _ _
      exact I1.fpOk hle (I1.hok.fresh hle)
def zipS2 : List D → Option (List D)
  | [.str x, .str y] => some (zipD (chars x) (chars y))
  | _ => none
section
variable {X : Cx} {K : PySem.W.Frag} {k : Nat} {tg a b : Expr} {f : AD} {p pos : Pos}
theorem itd_zipS {F0 : Hp} {x y : Str} : ItD K (Itzs x y) F0 (zipD (chars x) (chars y)) where
  go := fun i d F H s s2 hd => by
    have := (List.getElem?_eq_some_iff.mp hd).1
    rw [zipD_len, chars_len, chars_len] at this
    have hx : x.length = x.cps.size := rfl
    have hy : y.length = y.cps.size := rfl
    exact ⟨by omega, by omega⟩
  yld := fun i d F H v H' s s2 hd hy => by
    obtain ⟨T, c, e, rfl, hT, rfl, hx, hy⟩ := hy
    rw [zipD_get] at hd
    simp only [chars, List.getElem?_map, Array.getElem?_toList] at hd
    rw [hx, hy] at hd
    simp only [Option.map_some, Option.bind_some, Option.some.injEq] at hd
    subst hd
    have ad : Adds F H (upd F T (.tup [.str ⟨#[c]⟩, .str ⟨#[e]⟩])) _ := .new s2 hT
    exact ⟨_, ad, .tup upd_same (.cons (.str _) (.cons (.str _) .nil))⟩
  stop := fun i F H s s2 hl => by
    rw [zipD_len, chars_len, chars_len] at hl
    have hx : x.length = x.cps.size := rfl
    have hy : y.length = y.cps.size := rfl
    show x.cps.size ≤ i ∨ y.cps.size ≤ i
    omega
theorem pid_zipS {tpos : Pos} {elts : List Expr} {kk : Nat} (gd : Good X K k) (hg : Gl X "zip") (hm : X.mg "zip" = none) (ha : PAd X K [a, b] f) (hs : starEach [a, b] X.env = (false, eval a X.env) :: starEach [b] X.env := by rfl) (hpl : (backTo pos (starEach [b] X.env)).any (·.1) = false := by rfl) :
    PId X K (.Tuple elts kk tpos) (.Call (.Name "zip" p) [a, b] [] pos) (dIT zipS2 f) := by
  obtain ⟨t, ha, sa⟩ := ha
  refine ⟨_, pi_zipS hg hm ha hs hpl, fun G F e σ H ds e' R rep hf q => ?_⟩
  unfold dIT at hf
  simp only [Option.bind_eq_some_iff, Option.map_eq_some_iff] at hf
  obtain ⟨⟨rs, e1⟩, h1, ⟨xs, e2⟩, hx, ds', h3, hf⟩ := hf
  cases hf
  refine sa G F e σ H rs e1 _ rep h1 fun vs F1 H1 rep1 s1 hl a1 => ?_
  obtain ⟨F2, rep2, s2, a2⟩ := rep1.takes hl a1 hx
  unfold zipS2 at h3
  split at h3
  · cases h3
    rename_i z w hz
    dsimp only at hz
    subst hz
    cases a2 with
    | cons b1 b2 =>
      cases b2 with
      | cons b2 b3 =>
        cases b3
        cases b1 with
        | str z => cases b2 with
          | str w => exact ⟨z, w, rfl, q _ F2 H1 rep2 (s1.trans s2) itd_zipS⟩
  · cases h3
end
@[simp] theorem zipS2_ (x y : Str) : zipS2 [.str x, .str y] = some (zipD (chars x) (chars y)) := id rfl
end HD

/-! x.replace(y, z) of written texts: a def's body with a token out -/
namespace HD
open PySem PySem.Spec PyProof.Rows L2 RT CwR
theorem PSsT.nox {X : Cx} {st : List Stmt} {t : TS} (h : PSsT X.nox st t) : PSsT X st t := fun pins s σ H D h0 I hw =>
  wpAny_mono (h pins s σ H D h0 (I.wish _) hw) (fun _ _ q => q.unwish) fun _ _ z => False.elim z
def PETd (X : Cx) (K : PySem.W.Frag) (ex : Expr) (f : XD) : Prop := ∃ t, PET X ex t ∧ SemE K t f
def PATd (X : Cx) (K : PySem.W.Frag) (es : List Expr) (f : AD) : Prop := ∃ t, PAT X es t ∧ SemA K t f
def PSsTd (X : Cx) (K : PySem.W.Frag) (st : List Stmt) (f : SD) : Prop := ∃ t, PSsT X st t ∧ SemS K t f
section
variable {X : Cx} {K : PySem.W.Frag} {k j : Nat} {a b o ex : Expr} {es : List Expr} {f fa fb fo : XD} {fr : AD} {p pos apos c0 c1 : Pos} {y z : Str} {j0 j1 : Nat} {t u : SD} {st : Stmt} {rest : List Stmt} {ps : List Str} {ms : List Bool} {Ff : List D → Option (D × List D)} {x : Str}
theorem petd_of (h : PEd X K ex f) : PETd X K ex f := let ⟨t, h, s⟩ := h; ⟨t, PET.of h, s⟩
theorem patd_nil : PATd X K [] dA0 := ⟨_, pat_nil, fun G F e σ H rs e' Q rep hf q => by
  cases hf
  exact q [] F H rep (.refl _) rfl (fun i v r h => by simp at h)⟩
theorem patd_cons (ha : PETd X K a fa) (hr : PATd X K es fr) (hs : starEach (a :: es) X.env = (false, eval a X.env) :: starEach es X.env := by rfl) : PATd X K (a :: es) (dA1 fa fr) := by
  obtain ⟨ta, ha, sa⟩ := ha; obtain ⟨tr, hr, sr⟩ := hr
  refine ⟨_, pat_cons ha hr hs, fun G F e σ H rs e' Q rep hf q => ?_⟩
  unfold dA1 at hf
  simp only [Option.bind_eq_some_iff, Option.map_eq_some_iff] at hf
  obtain ⟨⟨ra, e1⟩, h1, ⟨rs', e2⟩, h2, hf⟩ := hf
  cases hf
  refine sa G F e σ H ra e1 _ rep h1 fun v F1 H1 rep1 s1 a1 => ?_
  refine sr G F1 e1 σ H1 rs' e2 _ rep1 h2 fun vs F2 H2 rep2 s2 hl a2 => ?_
  refine q (v :: vs) F2 H2 rep2 (s1.trans s2) (by simpa using hl) fun i w r hw hr hg => ?_
  cases i with
  | zero => simp at hw hr; subst hw; subst hr; exact a1.later s2 hg
  | succ i => exact a2 i w r (by simpa using hw) (by simpa using hr) hg
def dRepl (y z : Str) (f : XD) : XD := fun e => (f e).bind fun p => (p.1.get p.2).bind fun d => match d with
  | .str x => if x.length + (x.length + 1) * z.length ≤ 16777216 then some (.dat (.str (Txt.replace x y z)), p.2) else none
  | _ => none
theorem sem_repl {to : TE} (s : SemE K to fo) : SemE K (tReplC to y z) (dRepl y z fo) := by
  intro G F e σ H r e' Q rep hf q
  unfold dRepl at hf
  simp only [Option.bind_eq_some_iff] at hf
  obtain ⟨⟨ra, e1⟩, h1, d, h2, hf⟩ := hf
  refine s G F e σ H ra e1 _ rep h1 fun v F1 H1 rep1 s1 a1 => ?_
  split at hf
  · rename_i x
    split at hf
    · rename_i hl
      cases hf
      have this : v = .str x := (a1.top rep1 h2).str
      subst this
      exact ⟨x, rfl, hl, q _ F1 H1 rep1 s1 (.str _)⟩
    · cases hf
  · cases hf
theorem petd_repl (ho : PEd X K o fo) (hyz : (y == z) = false := by decide)
    (hst : starEach [.Constant (.str y) j0 c0, .Constant (.str z) j1 c1] X.env = [(false, eval (.Constant (.str y) j0 c0) X.env), (false, eval (.Constant (.str z) j1 c1) X.env)] := by rfl)
    (hbase : attributeBase o "replace" X.env (eval o X.env) = eval o X.env := by rfl) (hline : (apos.endLine == pos.line) = true := by rfl) :
    PETd X K (.Call (.Attribute o "replace" apos) [.Constant (.str y) j0 c0, .Constant (.str z) j1 c1] [] pos) (dRepl y z fo) := by
  obtain ⟨t, h, s⟩ := ho
  exact ⟨_, pet_replC h hyz hst hbase hline, sem_repl s⟩
theorem petd_replT (ho : PETd X K o fo) (hyz : (y == z) = false := by decide)
    (hst : starEach [.Constant (.str y) j0 c0, .Constant (.str z) j1 c1] X.env = [(false, eval (.Constant (.str y) j0 c0) X.env), (false, eval (.Constant (.str z) j1 c1) X.env)] := by rfl)
    (hbase : attributeBase o "replace" X.env (eval o X.env) = eval o X.env := by rfl) (hline : (apos.endLine == pos.line) = true := by rfl) :
    PETd X K (.Call (.Attribute o "replace" apos) [.Constant (.str y) j0 c0, .Constant (.str z) j1 c1] [] pos) (dRepl y z fo) := by
  obtain ⟨t, h, s⟩ := ho
  exact ⟨_, pet_replT h hyz hst hbase hline, sem_repl s⟩
theorem petd_calC (g : Good X K k) (c : Cal X.prog X.w X.K X.mg X.base x j ps ms Ff) (hk : j ≤ k) (hg : Gl X x) (ha : PATd X K (a :: es) fr) (hdb : (x == ("__debug__" : Str)) = false := by decide) (he : starEach (a :: es) X.env = (false, eval a X.env) :: starEach es X.env := by rfl) (hpl : (backTo pos (starEach es X.env)).any (·.1) = false := by rfl) :
    PETd X K (.Call (.Name x p) (a :: es) [] pos) (dCall ms Ff fr) := by
  have hK := g.K
  subst hK
  obtain ⟨ad, fd, F, h1, h2, h3, _⟩ := c.ex
  obtain ⟨t, ha, sa⟩ := ha
  refine ⟨tCall (spF X.K ms Ff) [] _ t, fun pins s σ H Q h0 I h => ?_, sem_call sa⟩
  refine wpAny_Call_Name_kw (ld_glob I hg h1 ?_ hdb)
  refine PySem.W.callWith_K (h₀ := X.base) I.ok.mod.kin h2 (thn (ha pos pins s σ H _ h0 I h) fun us s1 ⟨vs, H1, I1, r, q⟩ => ⟨I1.kIn, ?_⟩) he hpl
  exact run_fn F (g.room.mono hk) h3 .nil pass0 I1 r q
theorem pstd_ret (h : PETd X K ex f) : PSsTd X K [.Return (some ex) pos] (dRet f) := by
  obtain ⟨t1, h, s⟩ := h
  refine ⟨_, psst_one (pst_ret h), fun G F e σ H o Dn rep hf q => ?_⟩
  unfold dRet at hf
  simp only [Option.bind_eq_some_iff, Option.map_eq_some_iff] at hf
  obtain ⟨⟨r, e1⟩, hf1, ⟨d, e2⟩, hf2, rfl⟩ := hf
  refine s G F e σ H r e1 _ rep hf1 fun v F1 H1 rep1 ss a1 => ?_
  obtain ⟨F2, rep2, ss2, a2⟩ := rep1.take a1 hf2
  exact q v σ F2 H1 rep2 (ss.trans ss2) a2
theorem psstd_cons (h1 : PSd X K st t) (h2 : PSsTd X K rest u) : PSsTd X K (st :: rest) (dSeq t u) := by
  obtain ⟨t1, h1, s1⟩ := h1
  obtain ⟨t2, h2, s2⟩ := h2
  refine ⟨_, psst_cons (PST.of h1) h2, fun G F e σ H o Dn rep hf q => ?_⟩
  unfold dSeq at hf
  simp only [Option.bind_eq_some_iff] at hf
  obtain ⟨o1, hf1, hf2⟩ := hf
  refine s1 G F e σ H o1 _ rep hf1 ?_
  cases o1 with
  | nx e1 => exact fun σ1 F1 H1 rep1 ss => s2 G F1 e1 σ1 H1 o Dn rep1 hf2 (q.mono ss)
  | _ => cases hf2; exact q
end
section
variable {P : Program} {w : World} {K : PySem.W.Frag} {mg : Str → Option Value} {base : Heap} {x : Str}
theorem fn_okT {qual : Str} {st : Stmt} {f : Addr} {fd : FuncData} {N ps : List Str} {k : Nat} {ms : List Bool} {body : SD} (F : Fun K x qual st f fd) (S : FnScope N ps (defScope st)) (hm : ms.length = ps.length) (hN : ps.length ≤ N.length) (hc : ∀ y ∈ (defScope st).names, y.2 ≠ .cell) (h1 : 1 ≤ ps.length)
    (hb : ∀ (cdv : Value) (A : Around) (outer : List PySem.Env) (s : Shared) (H : Hp) (E : XK), Good (bodyX P w K mg base N qual st f cdv A outer s H E) K k → PSsTd (bodyX P w K mg base N qual st f cdv A outer s H E) K (defBody st) body) :
    FnOk P w K mg base CX0 (k + 1) f fd ps (spF K ms (dFn N.length ms body)) := by
  obtain ⟨oc, od, kV, doc, pm, an, cdv, ct, osl, rfl, lk, hcd⟩ := F.ex
  refine fn_ofT lk hcd S hc h1 (fun vs H Q E h => ?_) (fun A outer s H vs Q E hr h => ?_)
  · obtain ⟨F0, ds, z, outs, _, ha, _⟩ := h
    rw [ha.len.1, hm]
  · obtain ⟨F0, ds, z, outs, hs, ha, hnd, hf, q⟩ := h
    obtain ⟨t, ht, st'⟩ := hb cdv A outer s H E ⟨rfl, rfl, S.nd, hr⟩
    refine ⟨t, HD.PSsT.nox ht, ?_⟩
    unfold dFn at hf
    simp only [Option.bind_eq_some_iff] at hf
    obtain ⟨e, he, o, ho, hf⟩ := hf
    have rep := rep_start (N := N) hs ha hnd he (by omega)
    refine st' _ F0 _ _ H o _ rep ho ?_
    have fin : ∀ {wv : V} {d : D} {e' : Env} {σ : St} {F' H' : Hp} {os : List D}, Rep K ⟨H, F0, ioSlots 0 ms vs⟩ F' e' σ H' → Same F0 F' → At K F' wv d → outsE e' 0 ms = some os → z = d → outs = os → Q wv H' := by
      intro wv d e' σ F' H' os r1 ss aw hos ez eo
      subst ez
      subst eo
      refine q wv F' H' (fun b x hb hn => r1.frame b x hb ?_) ss r1.sub r1.fr aw (outs_at r1 0 ha.len.1 (fun j p hm hv => ?_) ha.ref hos)
      · show b ∉ (ioSlots 0 ms vs).map (·.2)
        rw [ioSlots_snd]; exact hn
      · have := ha.inSlots 0 j p hm hv
        rw [Nat.zero_add] at this ⊢
        exact (r1.io _ this).1
    cases o with
    | nx e' =>
      simp only [Option.map_eq_some_iff] at hf
      obtain ⟨os, h1, h2⟩ := hf
      cases h2
      exact fun σ F' H' r1 ss => fin r1 ss .non h1 rfl rfl
    | rt d e' =>
      simp only [Option.map_eq_some_iff] at hf
      obtain ⟨os, h1, h2⟩ := hf
      cases h2
      exact fun v σ F' H' r1 ss aw => fin r1 ss aw h1 rfl rfl
    | ro d e' => cases hf
    | bk e' => cases hf
    | ct e' => cases hf
/-- as mk_cal, for a def in whose body a token must be out -/
theorem mk_calT {st : Stmt} {N ps : List Str} {k n : Nat} {ms : List Bool} {body : SD} (d : Def K mg x st ps) (S : FnScope N ps (defScope st)) (hn : N.length = n) (hm : ms.length = ps.length) (hN : ps.length ≤ N.length) (hc : ∀ y ∈ (defScope st).names, y.2 ≠ .cell) (h1 : 1 ≤ ps.length)
    (hb : ∀ (f : Addr) (cdv : Value) (A : Around) (outer : List PySem.Env) (s : Shared) (H : Hp) (E : XK), Good (bodyX P w K mg base N x st f cdv A outer s H E) K k → PSsTd (bodyX P w K mg base N x st f cdv A outer s H E) K (defBody st) body) :
    Cal P w K mg base x (k + 1) ps ms (dFn n ms body) := by
  subst hn
  obtain ⟨a, fd, F, hg, hbd⟩ := d.ex
  exact ⟨a, fd, fn_okT F S hm hN hc h1 (hb a), hg, F.kp, hbd, Fun.look F⟩
end
@[simp] theorem dRepl_ (y z : Str) (f : XD) (e : Env) : dRepl y z f e = (f e).bind fun p => (p.1.get p.2).bind fun d => match d with
  | .str x => if x.length + (x.length + 1) * z.length ≤ 16777216 then some (.dat (.str (Txt.replace x y z)), p.2) else none
  | _ => none := id rfl
end HD

/-! dicts: {}, d[k], k in d, d[k] = v; keys: whole numbers and texts, or tuples of such (marked: the first pair is (None, None)) -/
namespace HD
open PySem PySem.Spec PyProof.Rows L2 RT
def keyOf : D → Option Key
  | .int i => some (.inl i)
  | .str x => some (.inr x)
  | _ => none
def keysOf : List D → Option (List Key)
  | [] => some []
  | d :: ds => (keyOf d).bind fun k => (keysOf ds).map (k :: ·)
theorem keyOf_key {d : D} {k : Key} (h : keyOf d = some k) : d = keyD k := by
  unfold keyOf at h
  split at h
  · cases h; rfl
  · cases h; rfl
  · cases h
theorem keysOf_key : ∀ {ds : List D} {ks : List Key}, keysOf ds = some ks → ds = ks.map keyD
  | [], ks, h => by cases h; rfl
  | d :: ds, ks, h => by
    simp only [keysOf, Option.bind_eq_some_iff, Option.map_eq_some_iff] at h
    obtain ⟨k, h1, l, h2, rfl⟩ := h
    rw [List.map_cons, ← keyOf_key h1, ← keysOf_key h2]
def kEq : D → D → Bool
  | .int i, .int j => decide (i = j)
  | .str x, .str y => decide (x = y)
  | _, _ => false
def kEqL : List D → List D → Bool
  | [], [] => true
  | a :: l, b :: m => kEq a b && kEqL l m
  | _, _ => false
def tEq : D → D → Bool
  | .tuple l, .tuple m => kEqL l m
  | _, _ => false
theorem kEq_key (a b : Key) : kEq (keyD a) (keyD b) = decide (a = b) := by
  cases a <;> cases b <;> simp [kEq, keyD]
theorem kEqL_key : ∀ a b : List Key, kEqL (a.map keyD) (b.map keyD) = decide (a = b)
  | [], [] => by simp [kEqL]
  | [], _ :: _ => by simp [kEqL]
  | _ :: _, [] => by simp [kEqL]
  | a :: l, b :: m => by
    rw [List.map_cons, List.map_cons, kEqL, kEq_key, kEqL_key l m]
    simp
theorem tEq_key (a b : List Key) : tEq (.tuple (a.map keyD)) (.tuple (b.map keyD)) = decide (a = b) := kEqL_key a b
def lookD (eq : D → D → Bool) : List (D × D) → D → Option D
  | [], _ => none
  | q :: des, x => if eq q.1 x = true then some q.2 else lookD eq des x
def putD (eq : D → D → Bool) (des : List (D × D)) (x d : D) : List (D × D) :=
  if (des.any fun q => eq q.1 x) = true then des.map (fun q => if eq q.1 x = true then (q.1, d) else q) else des ++ [(x, d)]
section
variable {K : PySem.W.Frag} {F H : Hp}
theorem AtK.look {kvs : List (Key × V)} {des : List (D × D)} (h : AtK K F kvs des) (k : Key) : (lookD kEq des (keyD k)).isSome = (valV kvs k).isSome ∧ ∀ d, lookD kEq des (keyD k) = some d → ∃ v, valV kvs k = some v ∧ At K F v d := by
  induction kvs generalizing des with
  | nil => cases h; exact ⟨rfl, fun d h => by cases h⟩
  | cons p r ih =>
    cases h with
    | cons h1 h2 =>
      rename_i k0 v ds d
      rw [lookD]
      simp only [kEq_key]
      by_cases e : k0 = k
      · rw [if_pos (decide_eq_true e), valV_pos (p := (k0, v)) e]
        exact ⟨rfl, fun d' hd => by cases hd; exact ⟨v, rfl, h1⟩⟩
      · rw [if_neg (by simpa using e), valV_neg (p := (k0, v)) e]
        exact ih h2
theorem AtT.look {kvs : List (List Key × V)} {des : List (D × D)} (h : AtT K F kvs des) (k : List Key) : (lookD tEq des (.tuple (k.map keyD))).isSome = (valV kvs k).isSome ∧ ∀ d, lookD tEq des (.tuple (k.map keyD)) = some d → ∃ v, valV kvs k = some v ∧ At K F v d := by
  induction kvs generalizing des with
  | nil => cases h; exact ⟨rfl, fun d h => by cases h⟩
  | cons p r ih =>
    cases h with
    | cons h1 h2 =>
      rename_i k0 v ds d
      rw [lookD]
      simp only [tEq_key]
      by_cases e : k0 = k
      · rw [if_pos (decide_eq_true e), valV_pos (p := (k0, v)) e]
        exact ⟨rfl, fun d' hd => by cases hd; exact ⟨v, rfl, h1⟩⟩
      · rw [if_neg (by simpa using e), valV_neg (p := (k0, v)) e]
        exact ih h2
theorem AtK.any {kvs : List (Key × V)} {des : List (D × D)} (h : AtK K F kvs des) (k : Key) : (des.any fun q => kEq q.1 (keyD k)) = (kvs.any fun kv => decide (kv.1 = k)) := by
  induction kvs generalizing des with
  | nil => cases h; rfl
  | cons p r ih =>
    cases h with
    | cons h1 h2 => rw [List.any_cons, List.any_cons, ih h2, kEq_key]
theorem AtT.any {kvs : List (List Key × V)} {des : List (D × D)} (h : AtT K F kvs des) (k : List Key) : (des.any fun q => tEq q.1 (.tuple (k.map keyD))) = (kvs.any fun kv => decide (kv.1 = k)) := by
  induction kvs generalizing des with
  | nil => cases h; rfl
  | cons p r ih =>
    cases h with
    | cons h1 h2 => rw [List.any_cons, List.any_cons, ih h2, tEq_key]
theorem AtK.repl {kvs : List (Key × V)} {des : List (D × D)} (h : AtK K F kvs des) (k : Key) {v : V} {d : D} (hv : At K F v d) : AtK K F (kvs.map fun kv => if kv.1 = k then (kv.1, v) else kv) (des.map fun q => if kEq q.1 (keyD k) = true then (q.1, d) else q) := by
  induction kvs generalizing des with
  | nil => cases h; exact .nil
  | cons p r ih =>
    cases h with
    | cons h1 h2 =>
      rename_i k0 v0 ds d0
      rw [List.map_cons, List.map_cons]
      simp only [kEq_key]
      by_cases e : k0 = k
      · rw [if_pos e, if_pos (decide_eq_true e)]; exact .cons hv (ih h2)
      · rw [if_neg e, if_neg (by simpa using e)]; exact .cons h1 (ih h2)
theorem AtT.repl {kvs : List (List Key × V)} {des : List (D × D)} (h : AtT K F kvs des) (k : List Key) {v : V} {d : D} (hv : At K F v d) : AtT K F (kvs.map fun kv => if kv.1 = k then (kv.1, v) else kv) (des.map fun q => if tEq q.1 (.tuple (k.map keyD)) = true then (q.1, d) else q) := by
  induction kvs generalizing des with
  | nil => cases h; exact .nil
  | cons p r ih =>
    cases h with
    | cons h1 h2 =>
      rename_i k0 v0 ds d0
      rw [List.map_cons, List.map_cons]
      simp only [tEq_key]
      by_cases e : k0 = k
      · rw [if_pos e, if_pos (decide_eq_true e)]; exact .cons hv (ih h2)
      · rw [if_neg e, if_neg (by simpa using e)]; exact .cons h1 (ih h2)
theorem AtK.snoc {kvs : List (Key × V)} {des : List (D × D)} (h : AtK K F kvs des) (k : Key) {v : V} {d : D} (hv : At K F v d) : AtK K F (kvs ++ [(k, v)]) (des ++ [(keyD k, d)]) := by
  induction kvs generalizing des with
  | nil => cases h; exact .cons hv .nil
  | cons p r ih =>
    cases h with
    | cons h1 h2 => exact .cons h1 (ih h2)
theorem AtT.snoc {kvs : List (List Key × V)} {des : List (D × D)} (h : AtT K F kvs des) (k : List Key) {v : V} {d : D} (hv : At K F v d) : AtT K F (kvs ++ [(k, v)]) (des ++ [(.tuple (k.map keyD), d)]) := by
  induction kvs generalizing des with
  | nil => cases h; exact .cons hv .nil
  | cons p r ih =>
    cases h with
    | cons h1 h2 => exact .cons h1 (ih h2)
theorem AtK.put {kvs : List (Key × V)} {des : List (D × D)} (h : AtK K F kvs des) (k : Key) {v : V} {d : D} (hv : At K F v d) : AtK K F (putK kvs k v) (putD kEq des (keyD k) d) := by
  unfold putK putD
  rw [h.any k]
  split
  · exact h.repl k hv
  · exact h.snoc k hv
theorem AtT.put {kvs : List (List Key × V)} {des : List (D × D)} (h : AtT K F kvs des) (k : List Key) {v : V} {d : D} (hv : At K F v d) : AtT K F (putK kvs k v) (putD tEq des (.tuple (k.map keyD)) d) := by
  unfold putK putD
  rw [h.any k]
  split
  · exact h.repl k hv
  · exact h.snoc k hv
theorem AtK.len {kvs : List (Key × V)} {des : List (D × D)} (h : AtK K F kvs des) : kvs.length = des.length := by
  induction kvs generalizing des with
  | nil => cases h; rfl
  | cons p r ih => cases h with | cons h1 h2 => rw [List.length_cons, List.length_cons, ih h2]
theorem AtT.len {kvs : List (List Key × V)} {des : List (D × D)} (h : AtT K F kvs des) : kvs.length = des.length := by
  induction kvs generalizing des with
  | nil => cases h; rfl
  | cons p r ih => cases h with | cons h1 h2 => rw [List.length_cons, List.length_cons, ih h2]
theorem AtK.keys {kvs : List (Key × V)} {des : List (D × D)} (h : AtK K F kvs des) : ∀ q ∈ des, ∃ k, q.1 = keyD k := by
  induction kvs generalizing des with
  | nil => cases h; intro q hq; cases hq
  | cons p r ih =>
    cases h with
    | cons h1 h2 =>
      intro q hq
      rcases List.mem_cons.mp hq with rfl | hq
      · exact ⟨_, rfl⟩
      · exact ih h2 q hq
theorem atl_keys : ∀ {ks : List Key} {xs : List V}, AtL K F xs (ks.map keyD) → xs = ks.map kV
  | [], xs, h => by cases h; rfl
  | k :: ks, xs, h => by
    cases h with
    | cons h1 h2 =>
      rw [List.map_cons, ← atl_keys h2]
      congr 1
      cases k with
      | inl i => cases h1; rfl
      | inr x => cases h1; rfl
/-- a dict's pairs: keys whole numbers and texts; keys tuples -/
def dkOf : D → Option (List (D × D))
  | .dict ((.none, _) :: _) => none
  | .dict des => some des
  | _ => none
def dtOf : D → Option (List (D × D))
  | .dict ((.none, .none) :: des) => some des
  | _ => none
theorem Top.dk {u : V} {y : D} {des : List (D × D)} (s : Same F H) (h : Top K F H u y) (e : dkOf y = some des) : ∃ a kvs, u = .ref a ∧ H a = some (.dK kvs) ∧ AtK K F kvs des := by
  unfold dkOf at e
  split at e
  · cases e
  · rename_i ds hn
    cases e
    obtain ⟨a, rfl, q⟩ := h.dict s
    rcases q with ⟨kvs, h1, h2⟩ | ⟨kvs, des', rfl, _⟩ | ⟨xs, es, rfl, _⟩
    · exact ⟨a, kvs, rfl, h1, h2⟩
    · exact (hn _ _ rfl).elim
    · exact (hn _ _ rfl).elim
  · cases e
theorem Top.dt {u : V} {y : D} {des : List (D × D)} (s : Same F H) (h : Top K F H u y) (e : dtOf y = some des) : ∃ a kvs, u = .ref a ∧ H a = some (.dT kvs) ∧ AtT K F kvs des := by
  unfold dtOf at e
  split at e
  · cases e
    obtain ⟨a, rfl, q⟩ := h.dict s
    rcases q with ⟨kvs, h1, h2⟩ | ⟨kvs, des', e, h1, h2⟩ | ⟨xs, es, e, _⟩
    · obtain ⟨k, hk⟩ := h2.keys _ (List.mem_cons_self ..)
      cases k <;> cases hk
    · cases e; exact ⟨a, kvs, rfl, h1, h2⟩
    · cases e
  · cases e
theorem Top.key {v : V} {x : D} {k : Key} (h : Top K F H v x) (e : keyOf x = some k) : v = kV k := by
  obtain rfl := keyOf_key e
  cases k with
  | inl i => exact h.int
  | inr y => exact h.str
theorem Top.tkey {v : V} {l : List D} {ks : List Key} (s : Same F H) (h : Top K F H v (.tuple l)) (e : keysOf l = some ks) : ∃ b, v = .ref b ∧ H b = some (.tup (ks.map kV)) := by
  obtain rfl := keysOf_key e
  rcases h with h | ⟨rfl, h2, h3⟩
  · cases h with
    | tup h1 h2 => rw [atl_keys h2] at h1; exact ⟨_, rfl, s _ _ h1⟩
  · cases h3
/-! what stands at a key -/
def D.look (y x : D) : Option (Option D) := match keyOf x, dkOf y with
  | some k, some des => some (lookD kEq des (keyD k))
  | _, _ => match x, dtOf y with
    | .tuple l, some des => (keysOf l).map fun ks => lookD tEq des (.tuple (ks.map keyD))
    | _, _ => none
theorem look_get {v u : V} {x y : D} {o : Option D} (s : Same F H) (a : Top K F H v x) (b : Top K F H u y) (h : D.look y x = some o) : ∃ p w, u = .ref p ∧ DGet H p v w ∧ o.isSome = w.isSome ∧ ∀ d, o = some d → ∃ z, w = some z ∧ At K F z d := by
  unfold D.look at h
  split at h
  · rename_i k des h1 h2
    cases h
    obtain ⟨p, kvs, rfl, g1, g2⟩ := b.dk s h2
    obtain rfl := a.key h1
    obtain ⟨q1, q2⟩ := g2.look k
    exact ⟨p, _, rfl, DGet.k g1, q1, q2⟩
  · split at h
    · rename_i l des h2 hn
      simp only [Option.map_eq_some_iff] at h
      obtain ⟨ks, h1, rfl⟩ := h
      obtain ⟨p, kvs, rfl, g1, g2⟩ := b.dt s h2
      obtain ⟨bb, rfl, hb⟩ := a.tkey s h1
      obtain ⟨q1, q2⟩ := g2.look ks
      exact ⟨p, _, rfl, DGet.t g1 hb, q1, q2⟩
    · cases h
def D.dget (y x : D) : Option D := (D.look y x).bind id
def D.dIn (x y : D) : Option D := (D.look y x).map fun o => .bool o.isSome
def D.dNotIn (x y : D) : Option D := (D.look y x).map fun o => .bool (!o.isSome)
def rDGet : R2 := fun x y H Q => ∃ a v, x = .ref a ∧ DGet H a y (some v) ∧ Q v H
def rDIn : R2 := fun y x H Q => ∃ a o, x = .ref a ∧ DGet H a y o ∧ Q (.bl o.isSome) H
def rDNotIn : R2 := fun y x H Q => ∃ a o, x = .ref a ∧ DGet H a y o ∧ Q (.bl (!o.isSome)) H
theorem d_dget : Op2 K rDGet D.dget := by
  intro F H v u x y z Q s a b hz q
  simp only [D.dget, Option.bind_eq_some_iff, id] at hz
  obtain ⟨o, h1, rfl⟩ := hz
  obtain ⟨p, w, rfl, g, h2, h3⟩ := look_get s b a h1
  obtain ⟨c, rfl, h4⟩ := h3 z rfl
  exact ⟨p, c, rfl, g, q _ F H (.refl s) h4⟩
theorem d_dIn : Op2 K rDIn D.dIn := by
  intro F H v u x y z Q s a b hz q
  simp only [D.dIn, Option.map_eq_some_iff] at hz
  obtain ⟨o, h1, rfl⟩ := hz
  obtain ⟨p, w, rfl, g, h2, h3⟩ := look_get s a b h1
  rw [h2] at q
  exact ⟨p, w, rfl, g, q _ F H (.refl s) (.bl _)⟩
theorem d_dNotIn : Op2 K rDNotIn D.dNotIn := by
  intro F H v u x y z Q s a b hz q
  simp only [D.dNotIn, Option.map_eq_some_iff] at hz
  obtain ⟨o, h1, rfl⟩ := hz
  obtain ⟨p, w, rfl, g, h2, h3⟩ := look_get s a b h1
  rw [h2] at q
  exact ⟨p, w, rfl, g, q _ F H (.refl s) (.bl _)⟩
/-- d[k] = v -/
def D.dput (y x d : D) : Option D := match keyOf x, dkOf y with
  | some k, some des => if des.length < 16777216 then some (.dict (putD kEq des (keyD k) d)) else none
  | _, _ => match x, dtOf y with
    | .tuple l, some des => if des.length < 16777216 then (keysOf l).map fun ks => .dict ((.none, .none) :: putD tEq des (.tuple (ks.map keyD)) d) else none
    | _, _ => none
theorem d_dput : OpSet K rSetD D.dput := by
  intro F H p o i v d di dv z Q s hp ho hi hv hz q
  have ht : Top K F H (.ref p) d := .own rfl hp ho
  unfold D.dput at hz
  split at hz
  · rename_i k des h1 h2
    split at hz
    · rename_i hl
      cases hz
      obtain ⟨a, kvs, e, g1, g2⟩ := ht.dk s h2
      cases e
      obtain rfl := hi.key h1
      exact ⟨p, _, rfl, DPut.k g1 (by rw [g2.len]; exact lim_lt hl), q _ (.dk (g2.put k hv))⟩
    · cases hz
  · split at hz
    · rename_i l des h2 hn
      split at hz
      · rename_i hl
        simp only [Option.map_eq_some_iff] at hz
        obtain ⟨ks, h1, rfl⟩ := hz
        obtain ⟨a, kvs, e, g1, g2⟩ := ht.dt s h2
        cases e
        obtain ⟨b, rfl, hb⟩ := hi.tkey s h1
        exact ⟨p, _, rfl, DPut.t g1 hb (by rw [g2.len]; exact lim_lt hl), q _ (.dt (g2.put ks hv))⟩
      · cases hz
    · cases hz
end
section
variable {X : Cx} {K : PySem.W.Frag} {k : Nat} {a b : Expr} {fa fb : XD} {pos : Pos}
theorem op_dIn (g : Good X K k) : OpR X (compareOp .In) rDIn := fun pins s σ H x y v u Q I rx ry h => by
  obtain ⟨p, o, rfl, g1, q⟩ := h
  cases (show u = Value.ref p from ry)
  exact d_in (by have := g.hu2; omega) I g1 rx fun s3 I3 => ⟨.bl o.isSome, H, I3, rfl, q⟩
theorem op_dNotIn (g : Good X K k) : OpR X (compareOp .NotIn) rDNotIn := fun pins s σ H x y v u Q I rx ry h => by
  obtain ⟨p, o, rfl, g1, q⟩ := h
  cases (show u = Value.ref p from ry)
  exact L2.d_notIn (by have := g.hu2; omega) I g1 rx fun s3 I3 => ⟨.bl (!o.isSome), H, I3, rfl, q⟩
theorem ped_dget (g : Good X K k) (ha : PEd X K a fa) (hb : PEd X K b fb) (hs : NoSl b := by exact fun _ _ => rfl) : PEd X K (.Subscript a b pos) (dBin D.dget fa fb) := by
  obtain ⟨ta, ha, sa⟩ := ha
  obtain ⟨tb, hb, sb⟩ := hb
  exact ⟨_, pe_dget (by have := g.hu2; omega) ha hb hs, sem_bin (r := rDGet) d_dget sa sb⟩
theorem pset_dict (g : Good X K k) : PSet X rSetD := set_dict (by have := g.hu2; omega)
def dNewK : ND := fun e => some (.dict [], e)
def dNewT : ND := fun e => some (.dict [(.none, .none)], e)
theorem pnd_dnewK : PNd X K (.Dict [] [] pos) dNewK := ⟨_, pe_dnewK, fun G F e σ H d e' Q rep hf q => by
  cases hf
  intro p hp
  obtain ⟨r1, f1⟩ := rep.new hp (Own.dk .nil)
  exact q p F _ r1 (.refl _) f1⟩
theorem pnd_dnewT : PNd X K (.Dict [] [] pos) dNewT := ⟨_, pe_dnewT, fun G F e σ H d e' Q rep hf q => by
  cases hf
  intro p hp
  obtain ⟨r1, f1⟩ := rep.new hp (Own.dt .nil)
  exact q p F _ r1 (.refl _) f1⟩
end
@[simp] theorem dNewK_ (e : Env) : dNewK e = some (.dict [], e) := id rfl
@[simp] theorem dNewT_ (e : Env) : dNewT e = some (.dict [(.none, .none)], e) := id rfl
end HD

namespace K49
open PySem PySem.Spec PyProof.Rows L2 RT HD
def f_rooms_needed : List D → Option (D × List D) := dFn 3 [false, false]
  ((dRet (dCB D.max1 (dA1 (dN (dBinN D.cat (dN (dLc (dI D.lst? (dVar 1)) (gdName 2) dYes (dMet isLst L.count (dVar 1) (dA1 (dVar 2) dA0)) [2])) (dN (dLst (dA1 (dC (.int 0)) dA0))))) dA0))))
def f_even_rooms : List D → Option (D × List D) := dFn 2 [false, false]
  ((dRet (dIf (dB (dBin D.gt (dCB D.len (dA1 (dVar 0) dA0)) (dC (.int 0)))) (dUn D.neg (dBin D.fdiv (dUn D.neg (dCB D.len (dA1 (dVar 0) dA0))) (dVar 1))) (dC (.int 0)))))
def f_shares : List D → Option (D × List D) := dFn 3 [false, false, false]
  ((dRet (dOrV (dBin D.eq (dBin D.ix (dBin D.ix (dVar 0) (dVar 1)) (dC (.int 0))) (dBin D.ix (dBin D.ix (dVar 0) (dVar 2)) (dC (.int 0)))) (dBin D.eq (dBin D.ix (dBin D.ix (dVar 0) (dVar 1)) (dC (.int 1))) (dBin D.ix (dBin D.ix (dVar 0) (dVar 2)) (dC (.int 1)))))))
def b_chains_of_2 : SD :=
  (dSeq (dDrop (dMut D.extend (dSlot 6) (dA1 (dN (dLc (dI D.lst? (dVar 4)) (gdName 9) (dAnd (dB (dBin D.notIn (dVar 9) (dVar 6))) (dTr (dCall [false, false, false] f_shares (dA1 (dVar 0) (dA1 (dBin D.ix (dVar 6) (dVar 7)) (dA1 (dVar 9) dA0)))))) (dVar 9) [9])) dA0)))
  (dAug 7 D.iadd (dC (.int 1))))
def t_chains_of_2 : TD :=
  (dB (dBin D.lt (dVar 7) (dCB D.len (dA1 (dVar 6) dA0))))
def b_chains_of_1 : SD :=
  (dSeq (dSetN 6 (dLst (dA1 (dBin D.ix (dVar 4) (dC (.int 0))) dA0)))
  (dSeq (dSet 7 (dC (.int 0)))
  (dSeq (dWhile t_chains_of_2 b_chains_of_2 fuel)
  (dSeq (dDrop (dMut D.append (dSlot 5) (dA1 (dN (dCBN D.sorted (dA1 (dVar 6) dA0))) dA0)))
  (dSet 4 (dN (dLc (dI D.lst? (dVar 4)) (gdName 8) (dB (dBin D.notIn (dVar 8) (dVar 6))) (dVar 8) [8])))))))
def t_chains_of_1 : TD :=
  (dB (dBin D.gt (dCB D.len (dA1 (dVar 4) dA0)) (dC (.int 0))))
def f_chains_of : List D → Option (D × List D) := dFn 10 [false, true, false, false]
  ((dSeq (dSet 4 (dN (dLc (dIA range1 (dA1 (dCB D.len (dA1 (dVar 1) dA0)) dA0)) (gdName 8) (dB (dBin D.isIn (dBin D.ix (dVar 1) (dVar 8)) (dTup (dA1 (dVar 2) (dA1 (dVar 3) dA0))))) (dVar 8) [8])))
  (dSeq (dSetN 5 (dLst dA0))
  (dSeq (dWhile t_chains_of_1 b_chains_of_1 fuel)
  (dRet (dVar 5))))))
def b_evened_3 : SD :=
  (dStore D.setIx (dIf (dB (dBin D.eq (dBin D.ix (dVar 3) (dVar 10)) (dVar 6))) (dVar 7) (dVar 6)) (dVar 3) (dVar 10))
def b_evened_2 : SD :=
  (dSeq (dSet 8 (dCB D.len (dA1 (dN (dLc (dI D.lst? (dVar 5)) (gdName 10) (dB (dBin D.eq (dBin D.ix (dVar 3) (dVar 10)) (dVar 6))) (dC (.int 1)) [10])) dA0)))
  (dIfS (dB (dBin D.gt (dBin D.mul (dC (.int 2)) (dVar 8)) (dCB D.len (dA1 (dVar 5) dA0)))) (dSeq (dFor (dI D.lst? (dVar 5)) (gdName 10) b_evened_3)
  dBrk) dNx))
def b_evened_1 : SD :=
  (dSeq (dSet 4 (dN (dLc (dIA range1 (dA1 (dVar 2) dA0)) (gdName 9) dYes (dMet isLst L.count (dVar 3) (dA1 (dVar 9) dA0)) [9])))
  (dSeq (dAsg (dTup (dA1 (dMet isLst L.index (dVar 4) (dA1 (dCB D.max1 (dA1 (dVar 4) dA0)) dA0)) (dA1 (dMet isLst L.index (dVar 4) (dA1 (dCB D.min1 (dA1 (dVar 4) dA0)) dA0)) dA0))) (gdTup 2 (gdCons (gdName 6) (gdCons (gdName 7) gdNil))))
  (dSeq (dIfS (dB (dBin D.lt (dBin D.sub (dBin D.ix (dVar 4) (dVar 6)) (dBin D.ix (dVar 4) (dVar 7))) (dC (.int 2)))) (dRetV 3) dNx)
  (dFor (dI D.lst? (dCall [false, true, false, false] f_chains_of (dA1 (dVar 0) (dA1 (dVar 3) (dA1 (dVar 6) (dA1 (dVar 7) dA0)))))) (gdName 5) b_evened_2))))
def t_evened_1 : TD :=
  (dTr (dC (.bool true)))
def f_evened : List D → Option (D × List D) := dFnO 11 [false, false, false]
  ((dSeq (dSetN 3 (dCBN D.list1 (dA1 (dVar 1) dA0)))
  (dSeq (dIfS (dB (dBin D.eq (dVar 2) (dC (.int 0)))) (dRetV 3) dNx)
  (dWhile t_evened_1 b_evened_1 fuel))))
def b_plan_of_1 : SD :=
  (dIfS (dB (dBin D.eq (dBin D.ix (dVar 7) (dVar 2)) (dVar 3))) (dStore D.setIx (dBin D.ix (dVar 7) (dBin D.sub (dC (.int 1)) (dVar 2))) (dVar 5) (dBin D.ix (dVar 1) (dVar 6))) dNx)
def f_plan_of : List D → Option (D × List D) := dFnO 9 [false, false, false, false, false]
  ((dSeq (dSetN 5 (dLc (dIA range1 (dA1 (dVar 4) dA0)) (gdName 8) dYes (dC .none) [8]))
  (dSeq (dFor (dIT enum1 (dA1 (dVar 0) dA0)) (gdTup 2 (gdCons (gdName 6) (gdCons (gdName 7) gdNil))) b_plan_of_1)
  (dRetV 5))))
def f_gaps_of : List D → Option (D × List D) := dFn 4 [false]
  ((dSeq (dSet 1 (dN (dLc (dIT enum1 (dA1 (dVar 0) dA0)) (gdTup 2 (gdCons (gdName 2) (gdCons (gdName 3) gdNil))) (dB (dBin D.notN (dVar 3) (dC .none))) (dVar 2) [2, 3])))
  (dRet (dIf (dB (dBin D.gt (dCB D.len (dA1 (dVar 1) dA0)) (dC (.int 0)))) (dBin D.sub (dBin D.add (dBin D.sub (dBin D.ix (dVar 1) (dUn D.neg (dC (.int 1)))) (dBin D.ix (dVar 1) (dC (.int 0)))) (dC (.int 1))) (dCB D.len (dA1 (dVar 1) dA0))) (dC (.int 0))))))
abbrev f__law_cell : List D → Option (D × List D) := CM.f__law_cell
abbrev f__law_digits : List D → Option (D × List D) := CM.f__law_digits
abbrev f__law_draw : List D → Option (D × List D) := CM.f__law_drawB
abbrev f__law_pick : List D → Option (D × List D) := CM.f__law_pickB
abbrev r__law_same : Nat → List D → Option (D × List D) := CM.r__law_same
abbrev f__law_same : List D → Option (D × List D) := CM.f__law_same
def b__law_mixed_1 : SD :=
  (dDrop (dMut D.append (dSlot 4) (dA1 (dMut D.popAt (dSlot 3) (dA1 (dCall [true, false] f__law_draw (dA1 (dVar 0) (dA1 (dCB D.len (dA1 (dVar 3) dA0)) dA0))) dA0)) dA0)))
def f__law_mixed : List D → Option (D × List D) := dFn 5 [true, false]
  ((dSeq (dParN 3 4 (dCBN D.list1 (dA1 (dVar 1) dA0)) (dLst dA0))
  (dSeq (dFor (dIA range1 (dA1 (dCB D.len (dA1 (dVar 1) dA0)) dA0)) (gdName 2) b__law_mixed_1)
  (dRet (dVar 4)))))
def b__law_placed_2 : SD :=
  (dDrop (dMut D.append (dSlot 3) (dA1 (dTup (dA1 (dBin D.ix (dVar 7) (dVar 6)) (dA1 (dBin D.ix (dVar 8) (dVar 6)) (dA1 (dVar 4) dA0)))) dA0)))
def b__law_placed_1 : SD :=
  (dSeq (dPar 7 8 (dA1 (dCall [true, false] f__law_mixed (dA1 (dVar 0) (dA1 (dN (dLst (dA1 (dC (.int 0)) (dA1 (dC (.int 1)) (dA1 (dC (.int 2)) (dA1 (dC (.int 3)) dA0)))))) dA0))) (dA1 (dCall [true, false] f__law_mixed (dA1 (dVar 0) (dA1 (dN (dLst (dA1 (dC (.int 0)) (dA1 (dC (.int 1)) (dA1 (dC (.int 2)) (dA1 (dC (.int 3)) dA0)))))) dA0))) dA0)))
  (dSeq (dSet 5 (dBin D.ix (dN (dLst (dA1 (dCall [true, false] f__law_draw (dA1 (dVar 0) (dA1 (dC (.int 5)) dA0))) (dA1 (dIf (dB (dBin D.lt (dVar 4) (dC (.int 2)))) (dC (.int 4)) (dCall [true, false] f__law_draw (dA1 (dVar 0) (dA1 (dC (.int 2)) dA0)))) (dA1 (dCall [true, false] f__law_pick (dA1 (dVar 0) (dA1 (dN (dLst (dA1 (dC (.int 0)) (dA1 (dC (.int 4)) (dA1 (dC (.int 3)) dA0))))) dA0))) dA0))))) (dVar 2)))
  (dFor (dIA range1 (dA1 (dVar 5) dA0)) (gdName 6) b__law_placed_2)))
def f__law_placed : List D → Option (D × List D) := dFn 9 [true, false]
  ((dSeq (dSet 2 (dCall [true, false] f__law_draw (dA1 (dVar 0) (dA1 (dC (.int 3)) dA0))))
  (dSeq (dSetN 3 (dLst dA0))
  (dSeq (dFor (dIA range1 (dA1 (dVar 1) dA0)) (gdName 4) b__law_placed_1)
  (dRet (dCall [true, false] f__law_mixed (dA1 (dVar 0) (dA1 (dN (dSlN D.sliceL (dCall [true, false] f__law_mixed (dA1 (dVar 0) (dA1 (dVar 3) dA0))) dP0 (dP1 (dC (.int 10))))) dA0))))))))
def b__law_even_2 : SD :=
  (dSeq (dIfS (dB (dBin D.dIn (dTup (dA1 (dVar 8) (dA1 (dBin D.ix (dBin D.ix (dVar 0) (dVar 6)) (dVar 8)) (dA1 (dVar 7) dA0)))) (dVar 4))) (dRet (dC (.bool false))) dNx)
  (dStore D.dput (dC (.int 1)) (dVar 4) (dTup (dA1 (dVar 8) (dA1 (dBin D.ix (dBin D.ix (dVar 0) (dVar 6)) (dVar 8)) (dA1 (dVar 7) dA0))))))
def b__law_even_1 : SD :=
  (dSeq (dIfS (dOr (dNot (dTr (dUn (D.isi .int) (dVar 7)))) (dOr (dTr (dUn (D.isi .bool) (dVar 7))) (dOr (dB (dBin D.lt (dVar 7) (dC (.int 0)))) (dB (dBin D.ge (dVar 7) (dVar 2)))))) (dRet (dC (.bool false))) dNx)
  (dSeq (dFor (dI D.lst? (dN (dLst (dA1 (dC (.int 0)) (dA1 (dC (.int 1)) dA0))))) (gdName 8) b__law_even_2)
  (dStore D.setIx (dBin D.add (dBin D.ix (dVar 5) (dVar 7)) (dC (.int 1))) (dVar 5) (dVar 7))))
def f__law_even : List D → Option (D × List D) := dFn 9 [false, false, false, false]
  ((dSeq (dIfS (dOr (dNot (dTr (dUn (D.isi .list) (dVar 1)))) (dB (dBin D.ne (dCB D.len (dA1 (dVar 1) dA0)) (dCB D.len (dA1 (dVar 0) dA0))))) (dRet (dC (.bool false))) dNx)
  (dSeq (dParN 4 5 dNewT (dLc (dIA range1 (dA1 (dVar 2) dA0)) (gdName 7) dYes (dC (.int 0)) [7]))
  (dSeq (dFor (dIT enum1 (dA1 (dVar 1) dA0)) (gdTup 2 (gdCons (gdName 6) (gdCons (gdName 7) gdNil))) b__law_even_1)
  (dRet (dBin D.le (dCB D.max1 (dA1 (dN (dBinN D.cat (dVar 5) (dN (dLst (dA1 (dC (.int 0)) dA0))))) dA0)) (dVar 3)))))))
def b__law_gaps_1 : SD :=
  (dIfS (dB (dBin D.isN (dVar 1) (dC .none))) (dSet 3 (dBin D.add (dVar 3) (dC (.int 1)))) (dSeq (dSet 2 (dBin D.add (dVar 2) (dIf (dTr (dVar 4)) (dVar 3) (dC (.int 0)))))
  (dAsg (dTup (dA1 (dC (.int 0)) (dA1 (dC (.bool true)) dA0))) (gdTup 2 (gdCons (gdName 3) (gdCons (gdName 4) gdNil))))))
def f__law_gaps : List D → Option (D × List D) := dFn 5 [false]
  ((dSeq (dAsg (dTup (dA1 (dC (.int 0)) (dA1 (dC (.int 0)) (dA1 (dC (.bool false)) dA0)))) (gdTup 3 (gdCons (gdName 2) (gdCons (gdName 3) (gdCons (gdName 4) gdNil)))))
  (dSeq (dFor (dI D.lst? (dVar 0)) (gdName 1) b__law_gaps_1)
  (dRet (dVar 2)))))
def b_law_2 : SD :=
  (dSeq (dSet 9 (dCB D.len (dA1 (dN (dLc (dIA range1 (dA1 (dVar 7) dA0)) (gdName 21) (dB (dBin D.eq (dBin D.mod (dCB D.int1 (dA1 (dVar 21) dA0)) (dVar 11)) (dC (.int 0)))) (dC (.int 1)) [21])) dA0)))
  (dSeq (dSetN 14 (dCallO [false, false, false] f_evened (dA1 (dVar 15) (dA1 (dVar 16) (dA1 (dVar 11) dA0)))))
  (dSeq (dIfS (dOr (dNot (dTr (dCallB [false, false, false, false] f__law_even (dA1 (dVar 5) (dA1 (dVar 14) (dA1 (dVar 11) (dA1 (dVar 9) dA0))))))) (dOr (dB (dBin D.ne (dVar 15) (dVar 5))) (dB (dBin D.ne (dVar 16) (dVar 6))))) (dRet (dC (.bool false))) dNx)
  (dSeq (dIfS (dOr (dNot (dTr (dCall [false, false] f__law_same (dA1 (dCall [false, false] f_rooms_needed (dA1 (dVar 15) (dA1 (dN (dCBN D.list1 (dA1 (dVar 14) dA0))) dA0))) (dA1 (dVar 9) dA0))))) (dNot (dTr (dCall [false, false] f__law_same (dA1 (dCall [false, false] f_even_rooms (dA1 (dVar 15) (dA1 (dVar 11) dA0))) (dA1 (dVar 9) dA0)))))) (dRet (dC (.bool false))) dNx)
  (dSeq (dDrop (dMut D.append (dSlot 14) (dA1 (dC (.int 0)) dA0)))
  (dIfS (dB (dBin D.ne (dVar 16) (dVar 6))) (dRet (dC (.bool false))) dNx))))))
def b_law_5 : SD :=
  (dIfS (dB (dBin D.eq (dBin D.ix (dBin D.ix (dVar 5) (dVar 21)) (dVar 12)) (dVar 17))) (dStore D.setIx (dBin D.ix (dBin D.ix (dVar 5) (dVar 21)) (dBin D.sub (dC (.int 1)) (dVar 12))) (dVar 13) (dVar 18)) dNx)
def b_law_4 : SD :=
  (dSeq (dSetN 13 (dLc (dIA range1 (dA1 (dVar 10) dA0)) (gdName 18) dYes (dC .none) [18]))
  (dSeq (dFor (dIT enum1 (dA1 (dVar 6) dA0)) (gdTup 2 (gdCons (gdName 21) (gdCons (gdName 18) gdNil))) b_law_5)
  (dSeq (dSetN 14 (dCallO [false, false, false, false, false] f_plan_of (dA1 (dVar 15) (dA1 (dVar 16) (dA1 (dVar 12) (dA1 (dVar 17) (dA1 (dVar 10) dA0)))))))
  (dIfS (dOr (dNot (dTr (dCallB [false, false] f__law_same (dA1 (dVar 14) (dA1 (dVar 13) dA0))))) (dNot (dTr (dCall [false, false] f__law_same (dA1 (dCallB [false] f_gaps_of (dA1 (dVar 14) dA0)) (dA1 (dCallB [false] f__law_gaps (dA1 (dVar 13) dA0)) dA0)))))) (dRet (dC (.bool false))) dNx))))
def b_law_3 : SD :=
  (dFor (dI D.lst? (dN (dLst (dA1 (dCall [true, false] f__law_draw (dA1 (dVar 1) (dA1 (dC (.int 4)) dA0))) (dA1 (dCall [true, false] f__law_draw (dA1 (dVar 1) (dA1 (dC (.int 4)) dA0))) dA0))))) (gdName 17) b_law_4)
def b_law_1 : SD :=
  (dSeq (dSet 3 (dBin D.add (dC (.int 1)) (dCall [true, false] f__law_draw (dA1 (dVar 1) (dA1 (dC (.int 6)) dA0)))))
  (dSeq (dSet 4 (dCall [true, false] f__law_placed (dA1 (dVar 1) (dA1 (dVar 3) dA0))))
  (dSeq (dSet 5 (dN (dLc (dI D.lst? (dVar 4)) (gdTup 3 (gdCons (gdName 19) (gdCons (gdName 20) (gdCons (gdName 18) gdNil)))) dYes (dTup (dA1 (dVar 19) (dA1 (dVar 20) dA0))) [19, 20, 18])))
  (dSeq (dSet 6 (dN (dLc (dI D.lst? (dVar 4)) (gdTup 3 (gdCons (gdName 19) (gdCons (gdName 20) (gdCons (gdName 18) gdNil)))) dYes (dVar 18) [19, 20, 18])))
  (dSeq (dPar 15 16 (dA1 (dN (dCBN D.list1 (dA1 (dVar 5) dA0))) (dA1 (dN (dCBN D.list1 (dA1 (dVar 6) dA0))) dA0)))
  (dSeq (dSet 7 (dCB D.len (dA1 (dVar 5) dA0)))
  (dSeq (dSet 8 (dN (dLc (dIA range1 (dA1 (dVar 3) dA0)) (gdName 18) dYes (dCB D.len (dA1 (dN (dLc (dI D.lst? (dVar 6)) (gdName 20) (dB (dBin D.eq (dVar 20) (dVar 18))) (dC (.int 1)) [20])) dA0)) [18])))
  (dSeq (dIfS (dNot (dTr (dCall [false, false] f__law_same (dA1 (dCall [false, false] f_rooms_needed (dA1 (dVar 15) (dA1 (dVar 16) dA0))) (dA1 (dCB D.max1 (dA1 (dVar 8) dA0)) dA0))))) (dRet (dC (.bool false))) dNx)
  (dSeq (dSet 9 (dCB D.len (dA1 (dN (dLc (dIA range1 (dA1 (dVar 7) dA0)) (gdName 21) (dB (dBin D.eq (dBin D.mod (dCB D.int1 (dA1 (dVar 21) dA0)) (dVar 3)) (dC (.int 0)))) (dC (.int 1)) [21])) dA0)))
  (dSeq (dIfS (dNot (dTr (dCall [false, false] f__law_same (dA1 (dCall [false, false] f_even_rooms (dA1 (dVar 15) (dA1 (dVar 3) dA0))) (dA1 (dVar 9) dA0))))) (dRet (dC (.bool false))) dNx)
  (dSeq (dSet 10 (dBin D.add (dVar 3) (dCall [true, false] f__law_draw (dA1 (dVar 1) (dA1 (dC (.int 3)) dA0)))))
  (dSeq (dFor (dI D.lst? (dN (dLst (dA1 (dVar 3) (dA1 (dVar 10) dA0))))) (gdName 11) b_law_2)
  (dSeq (dFor (dI D.lst? (dN (dLst (dA1 (dC (.int 0)) (dA1 (dC (.int 1)) dA0))))) (gdName 12) b_law_3)
  (dSeq (dSetN 13 (dLc (dIA range1 (dA1 (dCall [true, false] f__law_draw (dA1 (dVar 1) (dA1 (dC (.int 10)) dA0))) dA0)) (gdName 18) dYes (dCall [true, false] f__law_pick (dA1 (dVar 1) (dA1 (dN (dLst (dA1 (dC .none) (dA1 (dC .none) (dA1 (dC (.int 0)) (dA1 (dC (.int 3)) (dA1 (dC .none) dA0))))))) dA0))) [18]))
  (dSeq (dSetN 14 (dCBN D.list1 (dA1 (dVar 13) dA0)))
  (dIfS (dOr (dNot (dTr (dCall [false, false] f__law_same (dA1 (dCallB [false] f_gaps_of (dA1 (dVar 14) dA0)) (dA1 (dCallB [false] f__law_gaps (dA1 (dVar 13) dA0)) dA0))))) (dB (dBin D.ne (dVar 14) (dVar 13)))) (dRet (dC (.bool false))) dNx))))))))))))))))
def f_law : List D → Option (D × List D) := dFn 22 [false]
  ((dSeq (dSetN 1 (dLst (dA1 (dCall [false, false, false] f__law_digits (dA1 (dVar 0) (dA1 (dC (.int 0)) (dA1 (dC (.int 20)) dA0)))) (dA1 (dC (.int 0)) dA0))))
  (dSeq (dFor (dIA range1 (dA1 (dC (.int 3)) dA0)) (gdName 2) b_law_1)
  (dSeq (dIfS (dOr (dNot (dTr (dCall [false, false] f__law_same (dA1 (dN (dCallO [false, false, false] f_evened (dA1 (dN (dLst dA0)) (dA1 (dN (dLst dA0)) (dA1 (dC (.int 0)) dA0))))) (dA1 (dN (dLst dA0)) dA0))))) (dOr (dNot (dTr (dCall [false, false] f__law_same (dA1 (dCall [false, false] f_even_rooms (dA1 (dN (dLst dA0)) (dA1 (dC (.int 0)) dA0))) (dA1 (dC (.int 0)) dA0))))) (dNot (dTr (dCall [false, false] f__law_same (dA1 (dCall [false, false] f_rooms_needed (dA1 (dN (dLst dA0)) (dA1 (dN (dLst dA0)) dA0))) (dA1 (dC (.int 0)) dA0))))))) (dRet (dC (.bool false))) dNx)
  (dSeq (dIfS (dOr (dNot (dTr (dCall [false, false] f__law_same (dA1 (dCall [false] f_gaps_of (dA1 (dN (dLst (dA1 (dC .none) (dA1 (dC (.int 0)) (dA1 (dC .none) (dA1 (dC .none) (dA1 (dC (.int 1)) (dA1 (dC .none) dA0)))))))) dA0)) (dA1 (dC (.int 2)) dA0))))) (dNot (dTr (dCall [false, false] f__law_same (dA1 (dCall [false] f_gaps_of (dA1 (dN (dLst dA0)) dA0)) (dA1 (dC (.int 0)) dA0)))))) (dRet (dC (.bool false))) dNx)
  (dRet (dAndV (dCall [false, false] f__law_same (dA1 (dCall [false, false] f_even_rooms (dA1 (dN (dLst (dA1 (dTup (dA1 (dC (.int 0)) (dA1 (dC (.int 0)) dA0))) (dA1 (dTup (dA1 (dC (.int 1)) (dA1 (dC (.int 1)) dA0))) (dA1 (dTup (dA1 (dC (.int 2)) (dA1 (dC (.int 2)) dA0))) dA0))))) (dA1 (dC (.int 2)) dA0))) (dA1 (dC (.int 2)) dA0))) (dCall [false, false] f__law_same (dA1 (dN (dCallO [false, false, false, false, false] f_plan_of (dA1 (dN (dLst (dA1 (dTup (dA1 (dC (.int 0)) (dA1 (dC (.int 2)) dA0))) dA0))) (dA1 (dN (dLst (dA1 (dC (.int 1)) dA0))) (dA1 (dC (.int 1)) (dA1 (dC (.int 2)) (dA1 (dC (.int 3)) dA0))))))) (dA1 (dN (dLst (dA1 (dC .none) (dA1 (dC (.int 0)) (dA1 (dC .none) dA0))))) dA0))))))))))
theorem f_gaps_of_len : ∀ (ds : List D) (z : D × List D), f_gaps_of ds = some z → ds.length = ([false] : List Bool).length := dFn_len
theorem f__law_same_len : ∀ (ds : List D) (z : D × List D), f__law_same ds = some z → ds.length = ([false, false] : List Bool).length := dFn_len
theorem f__law_even_len : ∀ (ds : List D) (z : D × List D), f__law_even ds = some z → ds.length = ([false, false, false, false] : List Bool).length := dFn_len
theorem f__law_gaps_len : ∀ (ds : List D) (z : D × List D), f__law_gaps ds = some z → ds.length = ([false] : List Bool).length := dFn_len
end K49

namespace K49
open PySem PySem.Spec PyProof.Rows L2 RT HD
def topS (i : Nat) : Stmt := PySem.Challenge.pw_schoollands_k49_whole_rooms_and_plans.main.body.getD i (.Pass ⟨0, 0, 0, 0⟩)
abbrev s_rooms_needed : Stmt := topS 1
abbrev n_rooms_needed : List Str := ["lessons", "row", "period"]
abbrev p_rooms_needed : List Str := ["lessons", "row"]
theorem sc_rooms_needed : FnScope n_rooms_needed p_rooms_needed (defScope s_rooms_needed) := ⟨rfl, rfl, rfl, by decide +kernel, rfl, by decide +kernel, by decide +kernel⟩
abbrev s_even_rooms : Stmt := topS 2
abbrev n_even_rooms : List Str := ["lessons", "periods"]
abbrev p_even_rooms : List Str := ["lessons", "periods"]
theorem sc_even_rooms : FnScope n_even_rooms p_even_rooms (defScope s_even_rooms) := ⟨rfl, rfl, rfl, by decide +kernel, rfl, by decide +kernel, by decide +kernel⟩
abbrev s_shares : Stmt := topS 5
abbrev n_shares : List Str := ["lessons", "one", "other"]
abbrev p_shares : List Str := ["lessons", "one", "other"]
theorem sc_shares : FnScope n_shares p_shares (defScope s_shares) := ⟨rfl, rfl, rfl, by decide +kernel, rfl, by decide +kernel, by decide +kernel⟩
abbrev s_chains_of : Stmt := topS 4
abbrev n_chains_of : List Str := ["lessons", "row", "one", "other", "left", "found", "chain", "at", "place", "far"]
abbrev p_chains_of : List Str := ["lessons", "row", "one", "other"]
theorem sc_chains_of : FnScope n_chains_of p_chains_of (defScope s_chains_of) := ⟨rfl, rfl, rfl, by decide +kernel, rfl, by decide +kernel, by decide +kernel⟩
abbrev s_evened : Stmt := topS 3
abbrev n_evened : List Str := ["lessons", "row", "periods", "found", "sizes", "chain", "most", "least", "full", "period", "place"]
abbrev p_evened : List Str := ["lessons", "row", "periods"]
theorem sc_evened : FnScope n_evened p_evened (defScope s_evened) := ⟨rfl, rfl, rfl, by decide +kernel, rfl, by decide +kernel, by decide +kernel⟩
abbrev s_plan_of : Stmt := topS 6
abbrev n_plan_of : List Str := ["lessons", "row", "side", "who", "periods", "found", "place", "lesson", "period"]
abbrev p_plan_of : List Str := ["lessons", "row", "side", "who", "periods"]
theorem sc_plan_of : FnScope n_plan_of p_plan_of (defScope s_plan_of) := ⟨rfl, rfl, rfl, by decide +kernel, rfl, by decide +kernel, by decide +kernel⟩
abbrev s_gaps_of : Stmt := topS 7
abbrev n_gaps_of : List Str := ["plan", "taken", "period", "far"]
abbrev p_gaps_of : List Str := ["plan"]
theorem sc_gaps_of : FnScope n_gaps_of p_gaps_of (defScope s_gaps_of) := ⟨rfl, rfl, rfl, by decide +kernel, rfl, by decide +kernel, by decide +kernel⟩
abbrev s__law_cell : Stmt := topS 9
abbrev n__law_cell : List Str := ["script", "k"]
abbrev p__law_cell : List Str := ["script", "k"]
theorem sc__law_cell : FnScope n__law_cell p__law_cell (defScope s__law_cell) := ⟨rfl, rfl, rfl, by decide +kernel, rfl, by decide +kernel, by decide +kernel⟩
abbrev s__law_digits : Stmt := topS 10
abbrev n__law_digits : List Str := ["script", "first", "last", "digits", "k", "cell", "lap", "seed"]
abbrev p__law_digits : List Str := ["script", "first", "last"]
theorem sc__law_digits : FnScope n__law_digits p__law_digits (defScope s__law_digits) := ⟨rfl, rfl, rfl, by decide +kernel, rfl, by decide +kernel, by decide +kernel⟩
abbrev s__law_draw : Stmt := topS 11
abbrev n__law_draw : List Str := ["box", "many"]
abbrev p__law_draw : List Str := ["box", "many"]
theorem sc__law_draw : FnScope n__law_draw p__law_draw (defScope s__law_draw) := ⟨rfl, rfl, rfl, by decide +kernel, rfl, by decide +kernel, by decide +kernel⟩
abbrev s__law_pick : Stmt := topS 12
abbrev n__law_pick : List Str := ["box", "row"]
abbrev p__law_pick : List Str := ["box", "row"]
theorem sc__law_pick : FnScope n__law_pick p__law_pick (defScope s__law_pick) := ⟨rfl, rfl, rfl, by decide +kernel, rfl, by decide +kernel, by decide +kernel⟩
abbrev s__law_same : Stmt := topS 13
abbrev n__law_same : List Str := ["told", "due", "k"]
abbrev p__law_same : List Str := ["told", "due"]
theorem sc__law_same : FnScope n__law_same p__law_same (defScope s__law_same) := ⟨rfl, rfl, rfl, by decide +kernel, rfl, by decide +kernel, by decide +kernel⟩
abbrev s__law_mixed : Stmt := topS 14
abbrev n__law_mixed : List Str := ["box", "row", "lap", "left", "found"]
abbrev p__law_mixed : List Str := ["box", "row"]
theorem sc__law_mixed : FnScope n__law_mixed p__law_mixed (defScope s__law_mixed) := ⟨rfl, rfl, rfl, by decide +kernel, rfl, by decide +kernel, by decide +kernel⟩
abbrev s__law_placed : Stmt := topS 15
abbrev n__law_placed : List Str := ["box", "periods", "kind", "placed", "period", "many", "k", "teachers", "far"]
abbrev p__law_placed : List Str := ["box", "periods"]
theorem sc__law_placed : FnScope n__law_placed p__law_placed (defScope s__law_placed) := ⟨rfl, rfl, rfl, by decide +kernel, rfl, by decide +kernel, by decide +kernel⟩
abbrev s__law_even : Stmt := topS 16
abbrev n__law_even : List Str := ["lessons", "row", "periods", "most", "busy", "sizes", "place", "period", "side"]
abbrev p__law_even : List Str := ["lessons", "row", "periods", "most"]
theorem sc__law_even : FnScope n__law_even p__law_even (defScope s__law_even) := ⟨rfl, rfl, rfl, by decide +kernel, rfl, by decide +kernel, by decide +kernel⟩
abbrev s__law_gaps : Stmt := topS 17
abbrev n__law_gaps : List Str := ["plan", "far", "found", "waiting", "begun"]
abbrev p__law_gaps : List Str := ["plan"]
theorem sc__law_gaps : FnScope n__law_gaps p__law_gaps (defScope s__law_gaps) := ⟨rfl, rfl, rfl, by decide +kernel, rfl, by decide +kernel, by decide +kernel⟩
abbrev s_law : Stmt := topS 18
abbrev n_law : List Str := ["script", "box", "lap", "periods", "placed", "lessons", "row", "many", "sizes", "most", "more", "places", "side", "plan", "told", "handed", "told_row", "who", "period", "teacher", "far", "place"]
abbrev p_law : List Str := ["script"]
theorem sc_law : FnScope n_law p_law (defScope s_law) := ⟨rfl, rfl, rfl, by decide +kernel, rfl, by decide +kernel, by decide +kernel⟩
structure Bl (K : PySem.W.Frag) (mg : Str → Option Value) : Prop where
  b_bool : mg "bool" = none
  b_enumerate : mg "enumerate" = none
  b_int : mg "int" = none
  b_isinstance : mg "isinstance" = none
  b_len : mg "len" = none
  b_list : mg "list" = none
  b_max : mg "max" = none
  b_min : mg "min" = none
  b_range : mg "range" = none
  b_repr : mg "repr" = none
  b_sorted : mg "sorted" = none
  b_str : mg "str" = none
  b_tuple : mg "tuple" = none
section
variable {P : Program} {w : World} {K : PySem.W.Frag} {mg : Str → Option Value} {base : Heap}
theorem c_rooms_needed (T : Bl K mg) (d : Def K mg "rooms_needed" s_rooms_needed p_rooms_needed)  : Cal P w K mg base "rooms_needed" 1 p_rooms_needed [false, false] f_rooms_needed := by
  refine mk_cal (k := 0) d sc_rooms_needed rfl rfl (by decide) fun f cdv A outer s H E g => ?_
  exact (pssd_one (psd_ret (ped_callB (cr_maxK g) d_max1 (by rfl) T.b_max boot_max (pad_cons (ped_n (pnd_bin op_cat d_cat (ped_n (pnd_lc g (pid_list g (ped_var (i := 1))) (blkOk_by (N := n_rooms_needed) (sc := (defScope s_rooms_needed)) (own := [("period", 2)]) (by decide +kernel)) (fun _ _ _ _ _ => (pgd_name (i := 2) (g.blk).nd)) (fun _ _ _ _ _ => ptsd_nil) (fun _ _ _ _ _ => (ped_met (g.blk) PySem.F.plainAttrs_list kd_list PySem.F.slot_list_count PySem.F.type_list_count (mt_countK (g.blk)) l_count (ped_var (i := 1)) (pad_cons (ped_var (i := 2)) pad_nil))))) (ped_n (pnd_lst (pad_cons ped_int pad_nil))))) pad_nil))))
theorem c_even_rooms (T : Bl K mg) (d : Def K mg "even_rooms" s_even_rooms p_even_rooms)  : Cal P w K mg base "even_rooms" 1 p_even_rooms [false, false] f_even_rooms := by
  refine mk_cal (k := 0) d sc_even_rooms rfl rfl (by decide) fun f cdv A outer s H E g => ?_
  exact (pssd_one (psd_ret (ped_if (ptd_cmp op_gt d_gt (ped_callB (call_lenK g) d_len (by rfl) T.b_len boot_len (pad_cons (ped_var (i := 0)) pad_nil)) ped_int (nomark _)) (ped_un un_neg d_neg (ped_bin op_fdivW d_fdiv (ped_un un_neg d_neg (ped_callB (call_lenK g) d_len (by rfl) T.b_len boot_len (pad_cons (ped_var (i := 0)) pad_nil))) (ped_var (i := 1)))) ped_int)))
theorem c_shares (T : Bl K mg) (d : Def K mg "shares" s_shares p_shares)  : Cal P w K mg base "shares" 1 p_shares [false, false, false] f_shares := by
  refine mk_cal (k := 0) d sc_shares rfl rfl (by decide) fun f cdv A outer s H E g => ?_
  exact (pssd_one (psd_ret (ped_or (ped_cmp (op_eqK g) d_eq (ped_ix g (ped_ix g (ped_var (i := 0)) (ped_var (i := 1))) ped_int) (ped_ix g (ped_ix g (ped_var (i := 0)) (ped_var (i := 2))) ped_int) (nomark _)) (ped_one (ped_cmp (op_eqK g) d_eq (ped_ix g (ped_ix g (ped_var (i := 0)) (ped_var (i := 1))) ped_int) (ped_ix g (ped_ix g (ped_var (i := 0)) (ped_var (i := 2))) ped_int) (nomark _))))))
theorem c_chains_of (T : Bl K mg) (d : Def K mg "chains_of" s_chains_of p_chains_of) (c_shares : Cal P w K mg base "shares" 1 p_shares [false, false, false] f_shares) : Cal P w K mg base "chains_of" 2 p_chains_of [false, true, false, false] f_chains_of := by
  refine mk_cal (k := 1) d sc_chains_of rfl rfl (by decide) fun f cdv A outer s H E g => ?_
  exact (pssd_cons (psd_setLc (i := 4) g (pid_range1 (by rfl) T.b_range (pad_cons (ped_callB (call_lenK g) d_len (by rfl) T.b_len boot_len (pad_cons (ped_var (i := 1)) pad_nil)) pad_nil)) (blkOk_by (N := n_chains_of) (sc := (defScope s_chains_of)) (own := [("place", 8)]) (by decide +kernel)) (fun _ _ _ _ _ => (pgd_name (i := 8) (g.blk).nd)) (fun _ _ _ _ _ => (ptsd_one (ptd_cmp (op_inAny (g.blk)) d_isIn (ped_ix (g.blk) (ped_var (i := 1)) (ped_var (i := 8))) (ped_tup (pad_cons (ped_var (i := 2)) (pad_cons (ped_var (i := 3)) pad_nil))) (by rfl)))) (fun _ _ _ _ _ => (ped_var (i := 8))) (sw_true rfl rfl rfl (by decide +kernel)))
  (pssd_cons (psd_setN (i := 5) (pnd_lst pad_nil) g.nd)
  (pssd_cons (psd_while fuel PassesOwn.never (ptd_cmp op_gt d_gt (ped_callB (call_lenK g) d_len (by rfl) T.b_len boot_len (pad_cons (ped_var (i := 4)) pad_nil)) ped_int (nomark _)) (pssd_cons (psd_setN (i := 6) (pnd_lst (pad_cons (ped_ix g (ped_var (i := 4)) ped_int) pad_nil)) g.nd)
  (pssd_cons (psd_set (i := 7) ped_int g.nd)
  (pssd_cons (psd_while fuel PassesOwn.never (ptd_cmp op_ltAny d_lt (ped_var (i := 7)) (ped_callB (call_lenK g) d_len (by rfl) T.b_len boot_len (pad_cons (ped_var (i := 6)) pad_nil)) (nomark _)) (pssd_cons (psd_expr (ped_mut g PySem.F.slot_list_extend PySem.F.type_list_extend mt_extend d_extend extend_l (ped_slot (i := 6)) (pad_cons (ped_n (pnd_lc g (pid_list g (ped_var (i := 4))) (blkOk_by (N := n_chains_of) (sc := (defScope s_chains_of)) (own := [("far", 9)]) (by decide +kernel)) (fun _ _ _ _ _ => (pgd_name (i := 9) (g.blk).nd)) (fun _ _ _ _ _ => (ptsd_one (ptd_w (pwd_and (ptd_cmp (op_notInAny (g.blk)) d_notIn (ped_var (i := 9)) (ped_var (i := 6)) (by rfl)) (pwd_and1 (ptd_truth (g.blk) (ped_calC (g.blk) c_shares (by decide) (by rfl) (pad_cons (ped_var (i := 0)) (pad_cons (ped_ix (g.blk) (ped_var (i := 6)) (ped_var (i := 7))) (pad_cons (ped_var (i := 9)) pad_nil)))))))))) (fun _ _ _ _ _ => (ped_var (i := 9))))) pad_nil)))
  (pssd_one (psd_aug (i := 7) iop_addAny d_iadd ped_int g.nd))))
  (pssd_cons (psd_expr (ped_mut g PySem.F.slot_list_append PySem.F.type_list_append mt_append d_append append_l (ped_slot (i := 5)) (pad_cons (ped_n (pnd_callB (cr_sortedK g) d_sorted (by rfl) T.b_sorted boot_sorted (pad_cons (ped_var (i := 6)) pad_nil))) pad_nil)))
  (pssd_one (psd_setLc (i := 4) g (pid_list g (ped_var (i := 4))) (blkOk_by (N := n_chains_of) (sc := (defScope s_chains_of)) (own := [("place", 8)]) (by decide +kernel)) (fun _ _ _ _ _ => (pgd_name (i := 8) (g.blk).nd)) (fun _ _ _ _ _ => (ptsd_one (ptd_cmp (op_notInAny (g.blk)) d_notIn (ped_var (i := 8)) (ped_var (i := 6)) (by rfl)))) (fun _ _ _ _ _ => (ped_var (i := 8))) (sw_true rfl rfl rfl (by decide +kernel)))))))))
  (pssd_one (psd_ret (ped_var (i := 5)))))))
theorem c_evened (T : Bl K mg) (d : Def K mg "evened" s_evened p_evened) (c_chains_of : Cal P w K mg base "chains_of" 2 p_chains_of [false, true, false, false] f_chains_of) : CalO P w K mg base "evened" 3 p_evened [false, false, false] f_evened := by
  refine mk_calO (k := 2) d sc_evened rfl rfl (by decide) fun f cdv A outer s H E g => ?_
  exact (pssd_cons (psd_setN (i := 3) (pnd_callTy (call_listK g) d_list1 (by rfl) T.b_list boot_list (pad_cons (ped_var (i := 1)) pad_nil)) g.nd)
  (pssd_cons (psd_if (ptd_cmp (op_eqK g) d_eq (ped_var (i := 2)) ped_int (nomark _)) (pssd_one (psd_retV (i := 3))) pssd_nil)
  (pssd_one (psd_while fuel PassesOwn.never (ptd_truth g ped_bl) (pssd_cons (psd_setLc (i := 4) g (pid_range1 (by rfl) T.b_range (pad_cons (ped_var (i := 2)) pad_nil)) (blkOk_by (N := n_evened) (sc := (defScope s_evened)) (own := [("period", 9)]) (by decide +kernel)) (fun _ _ _ _ _ => (pgd_name (i := 9) (g.blk).nd)) (fun _ _ _ _ _ => ptsd_nil) (fun _ _ _ _ _ => (ped_met (g.blk) PySem.F.plainAttrs_list kd_list PySem.F.slot_list_count PySem.F.type_list_count (mt_countK (g.blk)) l_count (ped_var (i := 3)) (pad_cons (ped_var (i := 9)) pad_nil))) (sw_true rfl rfl rfl (by decide +kernel)))
  (pssd_cons (psd_asg (ped_tup (pad_cons (ped_met g PySem.F.plainAttrs_list kd_list PySem.F.slot_list_index PySem.F.type_list_index (mt_indexK g) l_index (ped_var (i := 4)) (pad_cons (ped_callB (cr_maxK g) d_max1 (by rfl) T.b_max boot_max (pad_cons (ped_var (i := 4)) pad_nil)) pad_nil)) (pad_cons (ped_met g PySem.F.plainAttrs_list kd_list PySem.F.slot_list_index PySem.F.type_list_index (mt_indexK g) l_index (ped_var (i := 4)) (pad_cons (ped_callB (cr_minK g) d_min1 (by rfl) T.b_min boot_min (pad_cons (ped_var (i := 4)) pad_nil)) pad_nil)) pad_nil))) (pgd_tup g (pgsd_cons (pgd_name (i := 6) g.nd) (pgsd_cons (pgd_name (i := 7) g.nd) pgsd_nil))))
  (pssd_cons (psd_if (ptd_cmp op_ltAny d_lt (ped_bin op_sub d_sub (ped_ix g (ped_var (i := 4)) (ped_var (i := 6))) (ped_ix g (ped_var (i := 4)) (ped_var (i := 7)))) ped_int (nomark _)) (pssd_one (psd_retV (i := 3))) pssd_nil)
  (pssd_one (psd_for g PassesOwn.never (pid_list g (ped_calC g c_chains_of (by decide) (by rfl) (pad_cons (ped_var (i := 0)) (pad_cons (ped_var (i := 3)) (pad_cons (ped_var (i := 6)) (pad_cons (ped_var (i := 7)) pad_nil)))))) (pgd_name (i := 5) g.nd) (pssd_cons (psd_set (i := 8) (ped_callB (call_lenK g) d_len (by rfl) T.b_len boot_len (pad_cons (ped_n (pnd_lc g (pid_list g (ped_var (i := 5))) (blkOk_by (N := n_evened) (sc := (defScope s_evened)) (own := [("place", 10)]) (by decide +kernel)) (fun _ _ _ _ _ => (pgd_name (i := 10) (g.blk).nd)) (fun _ _ _ _ _ => (ptsd_one (ptd_cmp (op_eqK (g.blk)) d_eq (ped_ix (g.blk) (ped_var (i := 3)) (ped_var (i := 10))) (ped_var (i := 6)) (nomark _)))) (fun _ _ _ _ _ => ped_int))) pad_nil)) g.nd)
  (pssd_one (psd_if (ptd_cmp op_gt d_gt (ped_bin (op_mul.or op_mulW) d_mul ped_int (ped_var (i := 8))) (ped_callB (call_lenK g) d_len (by rfl) T.b_len boot_len (pad_cons (ped_var (i := 5)) pad_nil)) (nomark _)) (pssd_cons (psd_for g PassesOwn.never (pid_list g (ped_var (i := 5))) (pgd_name (i := 10) g.nd) (pssd_one (psd_store set_list d_setIx (ped_if (ptd_cmp (op_eqK g) d_eq (ped_ix g (ped_var (i := 3)) (ped_var (i := 10))) (ped_var (i := 6)) (nomark _)) (ped_var (i := 7)) (ped_var (i := 6))) (ped_var (i := 3)) (ped_var (i := 10)))))
  (pssd_one psd_break)) pssd_nil))))))))))))
theorem c_plan_of (T : Bl K mg) (d : Def K mg "plan_of" s_plan_of p_plan_of)  : CalO P w K mg base "plan_of" 1 p_plan_of [false, false, false, false, false] f_plan_of := by
  refine mk_calO (k := 0) d sc_plan_of rfl rfl (by decide) fun f cdv A outer s H E g => ?_
  exact (pssd_cons (psd_setLcN (i := 5) g (pid_range1 (by rfl) T.b_range (pad_cons (ped_var (i := 4)) pad_nil)) (blkOk_by (N := n_plan_of) (sc := (defScope s_plan_of)) (own := [("period", 8)]) (by decide +kernel)) (fun _ _ _ _ _ => (pgd_name (i := 8) (g.blk).nd)) (fun _ _ _ _ _ => ptsd_nil) (fun _ _ _ _ _ => ped_non) (sw_true rfl rfl rfl (by decide +kernel)))
  (pssd_cons (psd_for g PassesOwn.never (pid_enum g (by rfl) T.b_enumerate (pad_cons (ped_var (i := 0)) pad_nil)) (pgd_tup g (pgsd_cons (pgd_name (i := 6) g.nd) (pgsd_cons (pgd_name (i := 7) g.nd) pgsd_nil))) (pssd_one (psd_if (ptd_cmp (op_eqK g) d_eq (ped_ix g (ped_var (i := 7)) (ped_var (i := 2))) (ped_var (i := 3)) (nomark _)) (pssd_one (psd_store set_list d_setIx (ped_ix g (ped_var (i := 7)) (ped_bin op_sub d_sub ped_int (ped_var (i := 2)))) (ped_var (i := 5)) (ped_ix g (ped_var (i := 1)) (ped_var (i := 6))))) pssd_nil)))
  (pssd_one (psd_retV (i := 5)))))
theorem c_gaps_of (T : Bl K mg) (d : Def K mg "gaps_of" s_gaps_of p_gaps_of)  : Cal P w K mg base "gaps_of" 1 p_gaps_of [false] f_gaps_of := by
  refine mk_cal (k := 0) d sc_gaps_of rfl rfl (by decide) fun f cdv A outer s H E g => ?_
  exact (pssd_cons (psd_setLc (i := 1) g (pid_enum g (by rfl) T.b_enumerate (pad_cons (ped_var (i := 0)) pad_nil)) (blkOk_by (N := n_gaps_of) (sc := (defScope s_gaps_of)) (own := [("period", 2), ("far", 3)]) (by decide +kernel)) (fun _ _ _ _ _ => (pgd_tup (g.blk) (pgsd_cons (pgd_name (i := 2) (g.blk).nd) (pgsd_cons (pgd_name (i := 3) (g.blk).nd) pgsd_nil)))) (fun _ _ _ _ _ => (ptsd_one (ptd_cmp op_notN d_notN (ped_var (i := 3)) ped_non (nomark _)))) (fun _ _ _ _ _ => (ped_var (i := 2))) (sw_true rfl rfl rfl (by decide +kernel)))
  (pssd_one (psd_ret (ped_if (ptd_cmp op_gt d_gt (ped_callB (call_lenK g) d_len (by rfl) T.b_len boot_len (pad_cons (ped_var (i := 1)) pad_nil)) ped_int (nomark _)) (ped_bin op_sub d_sub (ped_bin (op_addAny g) d_add (ped_bin op_sub d_sub (ped_ix g (ped_var (i := 1)) (ped_un un_neg d_neg ped_int)) (ped_ix g (ped_var (i := 1)) ped_int)) ped_int) (ped_callB (call_lenK g) d_len (by rfl) T.b_len boot_len (pad_cons (ped_var (i := 1)) pad_nil))) ped_int))))
theorem c__law_cell (T : Bl K mg) (d : Def K mg "_law_cell" s__law_cell p__law_cell)  : Cal P w K mg base "_law_cell" 1 p__law_cell [false, false] f__law_cell := by
  refine mk_cal (k := 0) d sc__law_cell rfl rfl (by decide) fun f cdv A outer s H E g => ?_
  exact (pssd_cons (psd_if (ptd_cmp op_ltAny d_lt (ped_var (i := 1)) (ped_callB (call_lenK g) d_len (by rfl) T.b_len boot_len (pad_cons (ped_var (i := 0)) pad_nil)) (nomark _)) (pssd_one (psd_ret (ped_ix g (ped_var (i := 0)) (ped_var (i := 1))))) pssd_nil)
  (pssd_one (psd_ret ped_int)))
theorem c__law_digits (T : Bl K mg) (d : Def K mg "_law_digits" s__law_digits p__law_digits) (c__law_cell : Cal P w K mg base "_law_cell" 1 p__law_cell [false, false] f__law_cell) : Cal P w K mg base "_law_digits" 2 p__law_digits [false, false, false] f__law_digits := by
  refine mk_cal (k := 1) d sc__law_digits rfl rfl (by decide) fun f cdv A outer s H E g => ?_
  exact (pssd_cons (psd_setN (i := 3) (pnd_lst pad_nil) g.nd)
  (pssd_cons (psd_for g PassesOwn.never (pid_range2 (by rfl) T.b_range (pad_cons (ped_var (i := 1)) (pad_cons (ped_var (i := 2)) pad_nil))) (pgd_name (i := 4) g.nd) (pssd_cons (psd_set (i := 5) (ped_calC g c__law_cell (by decide) (by rfl) (pad_cons (ped_var (i := 0)) (pad_cons (ped_var (i := 4)) pad_nil))) g.nd)
  (pssd_cons (psd_if (ptd_cmp op_ltAny d_lt (ped_var (i := 5)) ped_int (nomark _)) (pssd_one (psd_set (i := 5) (ped_bin op_sub d_sub ped_int (ped_bin (op_mul.or op_mulW) d_mul ped_int (ped_var (i := 5)))) g.nd)) pssd_nil)
  (pssd_one (psd_if (ptd_cmp op_ge d_ge (ped_var (i := 5)) (ped_bin op_pow d_pow ped_int ped_int) (nomark _)) (pssd_one (psd_for g PassesOwn.never (pid_range1 (by rfl) T.b_range (pad_cons ped_int pad_nil)) (pgd_name (i := 6) g.nd) (pssd_one (psd_if (ptd_cmp op_gt d_gt (ped_var (i := 5)) ped_int (nomark _)) (pssd_cons (psd_expr (ped_mut g PySem.F.slot_list_append PySem.F.type_list_append mt_append d_append append_l (ped_slot (i := 3)) (pad_cons (ped_bin op_mod d_mod (ped_callTy call_int1 d_int1 (by rfl) T.b_int PyProof.Rows.boot_int (pad_cons (ped_var (i := 5)) pad_nil)) ped_int) pad_nil)))
  (pssd_one (psd_set (i := 5) (ped_bin op_fdivW d_fdiv (ped_var (i := 5)) ped_int) g.nd))) pssd_nil)))) (pssd_cons (psd_set (i := 7) (ped_bin op_mod d_mod (ped_callTy call_int1 d_int1 (by rfl) T.b_int PyProof.Rows.boot_int (pad_cons (ped_bin (op_addAny g) d_add (ped_bin (op_addAny g) d_add (ped_bin (op_mul.or op_mulW) d_mul (ped_var (i := 5)) ped_int) (ped_bin (op_mul.or op_mulW) d_mul (ped_var (i := 4)) ped_int)) ped_int) pad_nil)) ped_int) g.nd)
  (pssd_one (psd_for g PassesOwn.never (pid_range1 (by rfl) T.b_range (pad_cons ped_int pad_nil)) (pgd_name (i := 6) g.nd) (pssd_cons (psd_set (i := 7) (ped_bin op_mod d_mod (ped_callTy call_int1 d_int1 (by rfl) T.b_int PyProof.Rows.boot_int (pad_cons (ped_bin (op_addAny g) d_add (ped_bin (op_addAny g) d_add (ped_bin (op_mul.or op_mulW) d_mul (ped_var (i := 7)) ped_int) (ped_bin (op_mul.or op_mulW) d_mul ped_int (ped_var (i := 6)))) ped_int) pad_nil)) ped_int) g.nd)
  (pssd_one (psd_expr (ped_mut g PySem.F.slot_list_append PySem.F.type_list_append mt_append d_append append_l (ped_slot (i := 3)) (pad_cons (ped_bin op_mod d_mod (ped_callTy call_int1 d_int1 (by rfl) T.b_int PyProof.Rows.boot_int (pad_cons (ped_bin op_fdivW d_fdiv (ped_var (i := 7)) ped_int) pad_nil)) ped_int) pad_nil)))))))))))))
  (pssd_one (psd_ret (ped_var (i := 3))))))
theorem c__law_draw (T : Bl K mg) (d : Def K mg "_law_draw" s__law_draw p__law_draw)  : Cal P w K mg base "_law_draw" 1 p__law_draw [true, false] f__law_draw := by
  refine mk_cal (k := 0) d sc__law_draw rfl rfl (by decide) fun f cdv A outer s H E g => ?_
  exact (pssd_cons (psd_store set_list d_setIx (ped_bin (op_addAny g) d_add (ped_ix g (ped_var (i := 0)) ped_int) ped_int) (ped_var (i := 0)) ped_int)
  (pssd_cons (psd_if (ptd_cmp op_gt d_gt (ped_ix g (ped_var (i := 0)) ped_int) (ped_callB (call_lenK g) d_len (by rfl) T.b_len boot_len (pad_cons (ped_ix g (ped_var (i := 0)) ped_int) pad_nil)) (nomark _)) (pssd_one (psd_ret (ped_bin op_mod d_mod (ped_callTy call_int1 d_int1 (by rfl) T.b_int PyProof.Rows.boot_int (pad_cons (ped_bin (op_addAny g) d_add (ped_bin (op_addAny g) d_add (ped_ix g (ped_ix g (ped_var (i := 0)) ped_int) (ped_bin op_mod d_mod (ped_callTy call_int1 d_int1 (by rfl) T.b_int PyProof.Rows.boot_int (pad_cons (ped_bin (op_mul.or op_mulW) d_mul (ped_ix g (ped_var (i := 0)) ped_int) ped_int) pad_nil)) (ped_callB (call_lenK g) d_len (by rfl) T.b_len boot_len (pad_cons (ped_ix g (ped_var (i := 0)) ped_int) pad_nil)))) (ped_bin (op_mul.or op_mulW) d_mul (ped_ix g (ped_var (i := 0)) ped_int) ped_int)) ped_int) pad_nil)) (ped_var (i := 1))))) pssd_nil)
  (pssd_one (psd_ret (ped_bin op_mod d_mod (ped_callTy call_int1 d_int1 (by rfl) T.b_int PyProof.Rows.boot_int (pad_cons (ped_ix g (ped_ix g (ped_var (i := 0)) ped_int) (ped_bin op_sub d_sub (ped_ix g (ped_var (i := 0)) ped_int) ped_int)) pad_nil)) (ped_var (i := 1)))))))
theorem c__law_pick (T : Bl K mg) (d : Def K mg "_law_pick" s__law_pick p__law_pick) (c__law_draw : Cal P w K mg base "_law_draw" 1 p__law_draw [true, false] f__law_draw) : Cal P w K mg base "_law_pick" 2 p__law_pick [true, false] f__law_pick := by
  refine mk_cal (k := 1) d sc__law_pick rfl rfl (by decide) fun f cdv A outer s H E g => ?_
  exact (pssd_one (psd_ret (ped_ix g (ped_var (i := 1)) (ped_bin op_mod d_mod (ped_callTy call_int1 d_int1 (by rfl) T.b_int PyProof.Rows.boot_int (pad_cons (ped_calC g c__law_draw (by decide) (by rfl) (pad_cons (ped_var (i := 0)) (pad_cons ped_int pad_nil))) pad_nil)) (ped_callB (call_lenK g) d_len (by rfl) T.b_len boot_len (pad_cons (ped_var (i := 1)) pad_nil))))))
theorem k__law_same (T : Bl K mg) (d : Def K mg "_law_same" s__law_same p__law_same)  : ∀ n, Cal P w K mg base "_law_same" (0 + n) p__law_same [false, false] (r__law_same n)
  | 0 => (Cal.bot d).mono (by omega)
  | n + 1 => by
    have ih := k__law_same T d  n
    refine mk_cal (k := 0 + n) d sc__law_same rfl rfl (by decide) fun f cdv A outer s H E g => ?_
    exact (pssd_cons (psd_if (ptd_cmp op_isN d_isN (ped_var (i := 1)) ped_non (nomark _)) (pssd_one (psd_ret (ped_cmp op_isN d_isN (ped_var (i := 0)) ped_non (nomark _)))) pssd_nil)
  (pssd_cons (psd_if (ptd_cmp op_isB d_isB (ped_var (i := 1)) ped_bl (nomark _)) (pssd_one (psd_ret (ped_cmp op_isB d_isB (ped_var (i := 0)) ped_bl (nomark _)))) pssd_nil)
  (pssd_cons (psd_if (ptd_cmp op_isB d_isB (ped_var (i := 1)) ped_bl (nomark _)) (pssd_one (psd_ret (ped_cmp op_isB d_isB (ped_var (i := 0)) ped_bl (nomark _)))) pssd_nil)
  (pssd_cons (psd_if (ptd_truth g (ped_isi .str g (ped_var (i := 1)) (by rfl) T.b_isinstance (by rfl) T.b_str (by decide +kernel))) (pssd_one (psd_ret (ped_and (ped_isi .str g (ped_var (i := 0)) (by rfl) T.b_isinstance (by rfl) T.b_str (by decide +kernel)) (ped_one (ped_cmp (op_eqK g) d_eq (ped_callB call_repr d_repr (by rfl) T.b_repr boot_repr (pad_cons (ped_var (i := 0)) pad_nil)) (ped_callB call_repr d_repr (by rfl) T.b_repr boot_repr (pad_cons (ped_var (i := 1)) pad_nil)) (nomark _)))))) pssd_nil)
  (pssd_cons (psd_if (ptd_truth g (ped_isi .int g (ped_var (i := 1)) (by rfl) T.b_isinstance (by rfl) T.b_int (by decide +kernel))) (pssd_one (psd_ret (ped_and (ped_isi .int g (ped_var (i := 0)) (by rfl) T.b_isinstance (by rfl) T.b_int (by decide +kernel)) (ped_and (ped_not (ped_isi .bool g (ped_var (i := 0)) (by rfl) T.b_isinstance (by rfl) T.b_bool (by decide +kernel))) (ped_one (ped_cmp (op_eqK g) d_eq (ped_callB call_repr d_repr (by rfl) T.b_repr boot_repr (pad_cons (ped_var (i := 0)) pad_nil)) (ped_callB call_repr d_repr (by rfl) T.b_repr boot_repr (pad_cons (ped_var (i := 1)) pad_nil)) (nomark _))))))) pssd_nil)
  (pssd_cons (psd_if (ptd_w (pwd_or (ptd_w (pwd_and (ptd_truth g (ped_isi .tuple g (ped_var (i := 1)) (by rfl) T.b_isinstance (by rfl) T.b_tuple (by decide +kernel))) (pwd_and1 (ptd_not (ptd_truth g (ped_isi .tuple g (ped_var (i := 0)) (by rfl) T.b_isinstance (by rfl) T.b_tuple (by decide +kernel))))))) (pwd_or1 (ptd_w (pwd_and (ptd_truth g (ped_isi .list g (ped_var (i := 1)) (by rfl) T.b_isinstance (by rfl) T.b_list (by decide +kernel))) (pwd_and1 (ptd_not (ptd_truth g (ped_isi .list g (ped_var (i := 0)) (by rfl) T.b_isinstance (by rfl) T.b_list (by decide +kernel)))))))))) (pssd_one (psd_ret ped_bl)) pssd_nil)
  (pssd_cons (psd_if (ptd_cmp (op_neK g) d_ne (ped_callB (call_lenK g) d_len (by rfl) T.b_len boot_len (pad_cons (ped_var (i := 0)) pad_nil)) (ped_callB (call_lenK g) d_len (by rfl) T.b_len boot_len (pad_cons (ped_var (i := 1)) pad_nil)) (nomark _)) (pssd_one (psd_ret ped_bl)) pssd_nil)
  (pssd_cons (psd_for g PassesOwn.never (pid_range1 (by rfl) T.b_range (pad_cons (ped_callB (call_lenK g) d_len (by rfl) T.b_len boot_len (pad_cons (ped_var (i := 1)) pad_nil)) pad_nil)) (pgd_name (i := 2) g.nd) (pssd_one (psd_if (ptd_not (ptd_truth g (ped_calC g ih (by omega) (by rfl) (pad_cons (ped_ix g (ped_var (i := 0)) (ped_var (i := 2))) (pad_cons (ped_ix g (ped_var (i := 1)) (ped_var (i := 2))) pad_nil))))) (pssd_one (psd_ret ped_bl)) pssd_nil)))
  (pssd_one (psd_ret ped_bl))))))))))
theorem c__law_same (T : Bl K mg) (d : Def K mg "_law_same" s__law_same p__law_same)  : Cal P w K mg base "_law_same" 8 p__law_same [false, false] f__law_same := k__law_same T d  8
theorem c__law_mixed (T : Bl K mg) (d : Def K mg "_law_mixed" s__law_mixed p__law_mixed) (c__law_draw : Cal P w K mg base "_law_draw" 1 p__law_draw [true, false] f__law_draw) : Cal P w K mg base "_law_mixed" 2 p__law_mixed [true, false] f__law_mixed := by
  refine mk_cal (k := 1) d sc__law_mixed rfl rfl (by decide) fun f cdv A outer s H E g => ?_
  exact (pssd_cons (by exact psd_parN g (pnd_callTy (call_listK g) d_list1 (by rfl) T.b_list boot_list (pad_cons (ped_var (i := 1)) pad_nil)) (pnd_lst pad_nil) (i := 3) (j := 4))
  (pssd_cons (psd_for g PassesOwn.never (pid_range1 (by rfl) T.b_range (pad_cons (ped_callB (call_lenK g) d_len (by rfl) T.b_len boot_len (pad_cons (ped_var (i := 1)) pad_nil)) pad_nil)) (pgd_name (i := 2) g.nd) (pssd_one (psd_expr (ped_mut g PySem.F.slot_list_append PySem.F.type_list_append mt_append d_append append_l (ped_slot (i := 4)) (pad_cons (ped_mut g PySem.F.slot_list_pop PySem.F.type_list_pop mt_popAt d_popAt popAt_l (ped_slot (i := 3)) (pad_cons (ped_calC g c__law_draw (by decide) (by rfl) (pad_cons (ped_var (i := 0)) (pad_cons (ped_callB (call_lenK g) d_len (by rfl) T.b_len boot_len (pad_cons (ped_var (i := 3)) pad_nil)) pad_nil))) pad_nil)) pad_nil)))))
  (pssd_one (psd_ret (ped_var (i := 4))))))
theorem c__law_placed (T : Bl K mg) (d : Def K mg "_law_placed" s__law_placed p__law_placed) (c__law_draw : Cal P w K mg base "_law_draw" 1 p__law_draw [true, false] f__law_draw) (c__law_mixed : Cal P w K mg base "_law_mixed" 2 p__law_mixed [true, false] f__law_mixed) (c__law_pick : Cal P w K mg base "_law_pick" 2 p__law_pick [true, false] f__law_pick) : Cal P w K mg base "_law_placed" 3 p__law_placed [true, false] f__law_placed := by
  refine mk_cal (k := 2) d sc__law_placed rfl rfl (by decide) fun f cdv A outer s H E g => ?_
  exact (pssd_cons (psd_set (i := 2) (ped_calC g c__law_draw (by decide) (by rfl) (pad_cons (ped_var (i := 0)) (pad_cons ped_int pad_nil))) g.nd)
  (pssd_cons (psd_setN (i := 3) (pnd_lst pad_nil) g.nd)
  (pssd_cons (psd_for g PassesOwn.never (pid_range1 (by rfl) T.b_range (pad_cons (ped_var (i := 1)) pad_nil)) (pgd_name (i := 4) g.nd) (pssd_cons (psd_par g (i := 7) (j := 8) (pad_cons (ped_calC g c__law_mixed (by decide) (by rfl) (pad_cons (ped_var (i := 0)) (pad_cons (ped_n (pnd_lst (pad_cons ped_int (pad_cons ped_int (pad_cons ped_int (pad_cons ped_int pad_nil)))))) pad_nil))) (pad_cons (ped_calC g c__law_mixed (by decide) (by rfl) (pad_cons (ped_var (i := 0)) (pad_cons (ped_n (pnd_lst (pad_cons ped_int (pad_cons ped_int (pad_cons ped_int (pad_cons ped_int pad_nil)))))) pad_nil))) pad_nil)))
  (pssd_cons (psd_set (i := 5) (ped_ix g (ped_n (pnd_lst (pad_cons (ped_calC g c__law_draw (by decide) (by rfl) (pad_cons (ped_var (i := 0)) (pad_cons ped_int pad_nil))) (pad_cons (ped_if (ptd_cmp op_ltAny d_lt (ped_var (i := 4)) ped_int (nomark _)) ped_int (ped_calC g c__law_draw (by decide) (by rfl) (pad_cons (ped_var (i := 0)) (pad_cons ped_int pad_nil)))) (pad_cons (ped_calC g c__law_pick (by decide) (by rfl) (pad_cons (ped_var (i := 0)) (pad_cons (ped_n (pnd_lst (pad_cons ped_int (pad_cons ped_int (pad_cons ped_int pad_nil))))) pad_nil))) pad_nil))))) (ped_var (i := 2))) g.nd)
  (pssd_one (psd_for g PassesOwn.never (pid_range1 (by rfl) T.b_range (pad_cons (ped_var (i := 5)) pad_nil)) (pgd_name (i := 6) g.nd) (pssd_one (psd_expr (ped_mut g PySem.F.slot_list_append PySem.F.type_list_append mt_append d_append append_l (ped_slot (i := 3)) (pad_cons (ped_tup (pad_cons (ped_ix g (ped_var (i := 7)) (ped_var (i := 6))) (pad_cons (ped_ix g (ped_var (i := 8)) (ped_var (i := 6))) (pad_cons (ped_var (i := 4)) pad_nil)))) pad_nil)))))))))
  (pssd_one (psd_ret (ped_calC g c__law_mixed (by decide) (by rfl) (pad_cons (ped_var (i := 0)) (pad_cons (ped_n (pnd_sliceL g (ped_calC g c__law_mixed (by decide) (by rfl) (pad_cons (ped_var (i := 0)) (pad_cons (ped_var (i := 3)) pad_nil))) pod_none (pod_some ped_int))) pad_nil))))))))
theorem c__law_even (T : Bl K mg) (d : Def K mg "_law_even" s__law_even p__law_even)  : Cal P w K mg base "_law_even" 1 p__law_even [false, false, false, false] f__law_even := by
  refine mk_cal (k := 0) d sc__law_even rfl rfl (by decide) fun f cdv A outer s H E g => ?_
  exact (pssd_cons (psd_if (ptd_w (pwd_or (ptd_not (ptd_truth g (ped_isi .list g (ped_var (i := 1)) (by rfl) T.b_isinstance (by rfl) T.b_list (by decide +kernel)))) (pwd_or1 (ptd_cmp (op_neK g) d_ne (ped_callB (call_lenK g) d_len (by rfl) T.b_len boot_len (pad_cons (ped_var (i := 1)) pad_nil)) (ped_callB (call_lenK g) d_len (by rfl) T.b_len boot_len (pad_cons (ped_var (i := 0)) pad_nil)) (nomark _))))) (pssd_one (psd_ret ped_bl)) pssd_nil)
  (pssd_cons (by exact psd_parN g pnd_dnewT (pnd_lc g (pid_range1 (by rfl) T.b_range (pad_cons (ped_var (i := 2)) pad_nil)) (blkOk_by (N := n__law_even) (sc := (defScope s__law_even)) (own := [("period", 7)]) (by decide +kernel)) (fun _ _ _ _ _ => (pgd_name (i := 7) (g.blk).nd)) (fun _ _ _ _ _ => ptsd_nil) (fun _ _ _ _ _ => ped_int)) (i := 4) (j := 5))
  (pssd_cons (psd_for g PassesOwn.never (pid_enum g (by rfl) T.b_enumerate (pad_cons (ped_var (i := 1)) pad_nil)) (pgd_tup g (pgsd_cons (pgd_name (i := 6) g.nd) (pgsd_cons (pgd_name (i := 7) g.nd) pgsd_nil))) (pssd_cons (psd_if (ptd_w (pwd_or (ptd_not (ptd_truth g (ped_isi .int g (ped_var (i := 7)) (by rfl) T.b_isinstance (by rfl) T.b_int (by decide +kernel)))) (pwd_or (ptd_truth g (ped_isi .bool g (ped_var (i := 7)) (by rfl) T.b_isinstance (by rfl) T.b_bool (by decide +kernel))) (pwd_or (ptd_cmp op_ltAny d_lt (ped_var (i := 7)) ped_int (nomark _)) (pwd_or1 (ptd_cmp op_ge d_ge (ped_var (i := 7)) (ped_var (i := 2)) (nomark _))))))) (pssd_one (psd_ret ped_bl)) pssd_nil)
  (pssd_cons (psd_for g PassesOwn.never (pid_list g (ped_n (pnd_lst (pad_cons ped_int (pad_cons ped_int pad_nil))))) (pgd_name (i := 8) g.nd) (pssd_cons (psd_if (ptd_cmp (op_dIn g) d_dIn (ped_tup (pad_cons (ped_var (i := 8)) (pad_cons (ped_ix g (ped_ix g (ped_var (i := 0)) (ped_var (i := 6))) (ped_var (i := 8))) (pad_cons (ped_var (i := 7)) pad_nil)))) (ped_var (i := 4)) (by rfl)) (pssd_one (psd_ret ped_bl)) pssd_nil)
  (pssd_one (psd_store (pset_dict g) d_dput ped_int (ped_var (i := 4)) (ped_tup (pad_cons (ped_var (i := 8)) (pad_cons (ped_ix g (ped_ix g (ped_var (i := 0)) (ped_var (i := 6))) (ped_var (i := 8))) (pad_cons (ped_var (i := 7)) pad_nil))))))))
  (pssd_one (psd_store set_list d_setIx (ped_bin (op_addAny g) d_add (ped_ix g (ped_var (i := 5)) (ped_var (i := 7))) ped_int) (ped_var (i := 5)) (ped_var (i := 7)))))))
  (pssd_one (psd_ret (ped_cmp op_le d_le (ped_callB (cr_maxK g) d_max1 (by rfl) T.b_max boot_max (pad_cons (ped_n (pnd_bin op_cat d_cat (ped_var (i := 5)) (ped_n (pnd_lst (pad_cons ped_int pad_nil))))) pad_nil)) (ped_var (i := 3)) (nomark _)))))))
theorem c__law_gaps (T : Bl K mg) (d : Def K mg "_law_gaps" s__law_gaps p__law_gaps)  : Cal P w K mg base "_law_gaps" 1 p__law_gaps [false] f__law_gaps := by
  refine mk_cal (k := 0) d sc__law_gaps rfl rfl (by decide) fun f cdv A outer s H E g => ?_
  exact (pssd_cons (psd_asg (ped_tup (pad_cons ped_int (pad_cons ped_int (pad_cons ped_bl pad_nil)))) (pgd_tup g (pgsd_cons (pgd_name (i := 2) g.nd) (pgsd_cons (pgd_name (i := 3) g.nd) (pgsd_cons (pgd_name (i := 4) g.nd) pgsd_nil)))))
  (pssd_cons (psd_for g PassesOwn.never (pid_list g (ped_var (i := 0))) (pgd_name (i := 1) g.nd) (pssd_one (psd_if (ptd_cmp op_isN d_isN (ped_var (i := 1)) ped_non (nomark _)) (pssd_one (psd_set (i := 3) (ped_bin (op_addAny g) d_add (ped_var (i := 3)) ped_int) g.nd)) (pssd_cons (psd_set (i := 2) (ped_bin (op_addAny g) d_add (ped_var (i := 2)) (ped_if (ptd_truth g (ped_var (i := 4))) (ped_var (i := 3)) ped_int)) g.nd)
  (pssd_one (psd_asg (ped_tup (pad_cons ped_int (pad_cons ped_bl pad_nil))) (pgd_tup g (pgsd_cons (pgd_name (i := 3) g.nd) (pgsd_cons (pgd_name (i := 4) g.nd) pgsd_nil)))))))))
  (pssd_one (psd_ret (ped_var (i := 2))))))
theorem c_law (T : Bl K mg) (d : Def K mg "law" s_law p_law) (c__law_digits : Cal P w K mg base "_law_digits" 2 p__law_digits [false, false, false] f__law_digits) (c__law_placed : Cal P w K mg base "_law_placed" 3 p__law_placed [true, false] f__law_placed) (c__law_same : Cal P w K mg base "_law_same" 8 p__law_same [false, false] f__law_same) (c__law_draw : Cal P w K mg base "_law_draw" 1 p__law_draw [true, false] f__law_draw) (c_evened : CalO P w K mg base "evened" 3 p_evened [false, false, false] f_evened) (c__law_pick : Cal P w K mg base "_law_pick" 2 p__law_pick [true, false] f__law_pick) (c_even_rooms : Cal P w K mg base "even_rooms" 1 p_even_rooms [false, false] f_even_rooms) (c_plan_of : CalO P w K mg base "plan_of" 1 p_plan_of [false, false, false, false, false] f_plan_of) (c_rooms_needed : Cal P w K mg base "rooms_needed" 1 p_rooms_needed [false, false] f_rooms_needed) (c_gaps_of : Cal P w K mg base "gaps_of" 1 p_gaps_of [false] f_gaps_of) (c__law_even : Cal P w K mg base "_law_even" 1 p__law_even [false, false, false, false] f__law_even) (c__law_gaps : Cal P w K mg base "_law_gaps" 1 p__law_gaps [false] f__law_gaps) : Cal P w K mg base "law" 9 p_law [false] f_law := by
  refine mk_cal (k := 8) d sc_law rfl rfl (by decide) fun f cdv A outer s H E g => ?_
  exact (pssd_cons (psd_setN (i := 1) (pnd_lst (pad_cons (ped_calC g c__law_digits (by decide) (by rfl) (pad_cons (ped_var (i := 0)) (pad_cons ped_int (pad_cons ped_int pad_nil)))) (pad_cons ped_int pad_nil))) g.nd)
  (pssd_cons (psd_for g PassesOwn.never (pid_range1 (by rfl) T.b_range (pad_cons ped_int pad_nil)) (pgd_name (i := 2) g.nd) (pssd_cons (psd_set (i := 3) (ped_bin (op_addAny g) d_add ped_int (ped_calC g c__law_draw (by decide) (by rfl) (pad_cons (ped_var (i := 1)) (pad_cons ped_int pad_nil)))) g.nd)
  (pssd_cons (psd_set (i := 4) (ped_calC g c__law_placed (by decide) (by rfl) (pad_cons (ped_var (i := 1)) (pad_cons (ped_var (i := 3)) pad_nil))) g.nd)
  (pssd_cons (psd_setLc (i := 5) g (pid_list g (ped_var (i := 4))) (blkOk_by (N := n_law) (sc := (defScope s_law)) (own := [("teacher", 19), ("far", 20), ("period", 18)]) (by decide +kernel)) (fun _ _ _ _ _ => (pgd_tup (g.blk) (pgsd_cons (pgd_name (i := 19) (g.blk).nd) (pgsd_cons (pgd_name (i := 20) (g.blk).nd) (pgsd_cons (pgd_name (i := 18) (g.blk).nd) pgsd_nil))))) (fun _ _ _ _ _ => ptsd_nil) (fun _ _ _ _ _ => (ped_tup (pad_cons (ped_var (i := 19)) (pad_cons (ped_var (i := 20)) pad_nil)))) (sw_true rfl rfl rfl (by decide +kernel)))
  (pssd_cons (psd_set (i := 6) (ped_n (pnd_lc g (pid_list g (ped_var (i := 4))) (blkOk_by (N := n_law) (sc := (defScope s_law)) (own := [("teacher", 19), ("far", 20), ("period", 18)]) (by decide +kernel)) (fun _ _ _ _ _ => (pgd_tup (g.blk) (pgsd_cons (pgd_name (i := 19) (g.blk).nd) (pgsd_cons (pgd_name (i := 20) (g.blk).nd) (pgsd_cons (pgd_name (i := 18) (g.blk).nd) pgsd_nil))))) (fun _ _ _ _ _ => ptsd_nil) (fun _ _ _ _ _ => (ped_var (i := 18))))) g.nd)
  (pssd_cons (psd_par g (i := 15) (j := 16) (pad_cons (ped_n (pnd_callTy (call_listK g) d_list1 (by rfl) T.b_list boot_list (pad_cons (ped_var (i := 5)) pad_nil))) (pad_cons (ped_n (pnd_callTy (call_listK g) d_list1 (by rfl) T.b_list boot_list (pad_cons (ped_var (i := 6)) pad_nil))) pad_nil)))
  (pssd_cons (psd_set (i := 7) (ped_callB (call_lenK g) d_len (by rfl) T.b_len boot_len (pad_cons (ped_var (i := 5)) pad_nil)) g.nd)
  (pssd_cons (psd_setLc (i := 8) g (pid_range1 (by rfl) T.b_range (pad_cons (ped_var (i := 3)) pad_nil)) (blkOk_by (N := n_law) (sc := (defScope s_law)) (own := [("period", 18)]) (by decide +kernel)) (fun _ _ _ _ _ => (pgd_name (i := 18) (g.blk).nd)) (fun _ _ _ _ _ => ptsd_nil) (fun _ _ _ _ _ => (ped_callB (call_lenK (g.blk)) d_len (by rfl) T.b_len boot_len (pad_cons (ped_n (pnd_lc (g.blk) (pid_list (g.blk) (ped_var (i := 6))) (blkOk_by (N := n_law) (sc := (relS _ (defScope s_law))) (own := [("far", 20)]) (by decide +kernel)) (fun _ _ _ _ _ => (pgd_name (i := 20) (g.blk).blk.nd)) (fun _ _ _ _ _ => (ptsd_one (ptd_cmp (op_eqK (g.blk).blk) d_eq (ped_var (i := 20)) (ped_var (i := 18)) (nomark _)))) (fun _ _ _ _ _ => ped_int))) pad_nil))) (sw_true rfl rfl rfl (by decide +kernel)))
  (pssd_cons (psd_if (ptd_not (ptd_truth g (ped_calC g c__law_same (by decide) (by rfl) (pad_cons (ped_calC g c_rooms_needed (by decide) (by rfl) (pad_cons (ped_var (i := 15)) (pad_cons (ped_var (i := 16)) pad_nil))) (pad_cons (ped_callB (cr_maxK g) d_max1 (by rfl) T.b_max boot_max (pad_cons (ped_var (i := 8)) pad_nil)) pad_nil))))) (pssd_one (psd_ret ped_bl)) pssd_nil)
  (pssd_cons (psd_set (i := 9) (ped_callB (call_lenK g) d_len (by rfl) T.b_len boot_len (pad_cons (ped_n (pnd_lc g (pid_range1 (by rfl) T.b_range (pad_cons (ped_var (i := 7)) pad_nil)) (blkOk_by (N := n_law) (sc := (defScope s_law)) (own := [("place", 21)]) (by decide +kernel)) (fun _ _ _ _ _ => (pgd_name (i := 21) (g.blk).nd)) (fun _ _ _ _ _ => (ptsd_one (ptd_cmp (op_eqK (g.blk)) d_eq (ped_bin op_mod d_mod (ped_callTy call_int1 d_int1 (by rfl) T.b_int PyProof.Rows.boot_int (pad_cons (ped_var (i := 21)) pad_nil)) (ped_var (i := 3))) ped_int (nomark _)))) (fun _ _ _ _ _ => ped_int))) pad_nil)) g.nd)
  (pssd_cons (psd_if (ptd_not (ptd_truth g (ped_calC g c__law_same (by decide) (by rfl) (pad_cons (ped_calC g c_even_rooms (by decide) (by rfl) (pad_cons (ped_var (i := 15)) (pad_cons (ped_var (i := 3)) pad_nil))) (pad_cons (ped_var (i := 9)) pad_nil))))) (pssd_one (psd_ret ped_bl)) pssd_nil)
  (pssd_cons (psd_set (i := 10) (ped_bin (op_addAny g) d_add (ped_var (i := 3)) (ped_calC g c__law_draw (by decide) (by rfl) (pad_cons (ped_var (i := 1)) (pad_cons ped_int pad_nil)))) g.nd)
  (pssd_cons (psd_for g PassesOwn.never (pid_list g (ped_n (pnd_lst (pad_cons (ped_var (i := 3)) (pad_cons (ped_var (i := 10)) pad_nil))))) (pgd_name (i := 11) g.nd) (pssd_cons (psd_set (i := 9) (ped_callB (call_lenK g) d_len (by rfl) T.b_len boot_len (pad_cons (ped_n (pnd_lc g (pid_range1 (by rfl) T.b_range (pad_cons (ped_var (i := 7)) pad_nil)) (blkOk_by (N := n_law) (sc := (defScope s_law)) (own := [("place", 21)]) (by decide +kernel)) (fun _ _ _ _ _ => (pgd_name (i := 21) (g.blk).nd)) (fun _ _ _ _ _ => (ptsd_one (ptd_cmp (op_eqK (g.blk)) d_eq (ped_bin op_mod d_mod (ped_callTy call_int1 d_int1 (by rfl) T.b_int PyProof.Rows.boot_int (pad_cons (ped_var (i := 21)) pad_nil)) (ped_var (i := 11))) ped_int (nomark _)))) (fun _ _ _ _ _ => ped_int))) pad_nil)) g.nd)
  (pssd_cons (psd_setN (i := 14) (pnd_calO g c_evened (by decide) (by rfl) (pad_cons (ped_var (i := 15)) (pad_cons (ped_var (i := 16)) (pad_cons (ped_var (i := 11)) pad_nil)))) g.nd)
  (pssd_cons (psd_if (ptd_w (pwd_or (ptd_not (ptd_truth g (ped_calB g c__law_even (by decide) f__law_even_len (by rfl) (pad_cons (ped_var (i := 5)) (pad_cons (ped_var (i := 14)) (pad_cons (ped_var (i := 11)) (pad_cons (ped_var (i := 9)) pad_nil))))))) (pwd_or (ptd_cmp (op_neK g) d_ne (ped_var (i := 15)) (ped_var (i := 5)) (nomark _)) (pwd_or1 (ptd_cmp (op_neK g) d_ne (ped_var (i := 16)) (ped_var (i := 6)) (nomark _)))))) (pssd_one (psd_ret ped_bl)) pssd_nil)
  (pssd_cons (psd_if (ptd_w (pwd_or (ptd_not (ptd_truth g (ped_calC g c__law_same (by decide) (by rfl) (pad_cons (ped_calC g c_rooms_needed (by decide) (by rfl) (pad_cons (ped_var (i := 15)) (pad_cons (ped_n (pnd_callTy (call_listK g) d_list1 (by rfl) T.b_list boot_list (pad_cons (ped_var (i := 14)) pad_nil))) pad_nil))) (pad_cons (ped_var (i := 9)) pad_nil))))) (pwd_or1 (ptd_not (ptd_truth g (ped_calC g c__law_same (by decide) (by rfl) (pad_cons (ped_calC g c_even_rooms (by decide) (by rfl) (pad_cons (ped_var (i := 15)) (pad_cons (ped_var (i := 11)) pad_nil))) (pad_cons (ped_var (i := 9)) pad_nil)))))))) (pssd_one (psd_ret ped_bl)) pssd_nil)
  (pssd_cons (psd_expr (ped_mut g PySem.F.slot_list_append PySem.F.type_list_append mt_append d_append append_l (ped_slot (i := 14)) (pad_cons ped_int pad_nil)))
  (pssd_one (psd_if (ptd_cmp (op_neK g) d_ne (ped_var (i := 16)) (ped_var (i := 6)) (nomark _)) (pssd_one (psd_ret ped_bl)) pssd_nil))))))))
  (pssd_cons (psd_for g PassesOwn.never (pid_list g (ped_n (pnd_lst (pad_cons ped_int (pad_cons ped_int pad_nil))))) (pgd_name (i := 12) g.nd) (pssd_one (psd_for g PassesOwn.never (pid_list g (ped_n (pnd_lst (pad_cons (ped_calC g c__law_draw (by decide) (by rfl) (pad_cons (ped_var (i := 1)) (pad_cons ped_int pad_nil))) (pad_cons (ped_calC g c__law_draw (by decide) (by rfl) (pad_cons (ped_var (i := 1)) (pad_cons ped_int pad_nil))) pad_nil))))) (pgd_name (i := 17) g.nd) (pssd_cons (psd_setLcN (i := 13) g (pid_range1 (by rfl) T.b_range (pad_cons (ped_var (i := 10)) pad_nil)) (blkOk_by (N := n_law) (sc := (defScope s_law)) (own := [("period", 18)]) (by decide +kernel)) (fun _ _ _ _ _ => (pgd_name (i := 18) (g.blk).nd)) (fun _ _ _ _ _ => ptsd_nil) (fun _ _ _ _ _ => ped_non) (sw_true rfl rfl rfl (by decide +kernel)))
  (pssd_cons (psd_for g PassesOwn.never (pid_enum g (by rfl) T.b_enumerate (pad_cons (ped_var (i := 6)) pad_nil)) (pgd_tup g (pgsd_cons (pgd_name (i := 21) g.nd) (pgsd_cons (pgd_name (i := 18) g.nd) pgsd_nil))) (pssd_one (psd_if (ptd_cmp (op_eqK g) d_eq (ped_ix g (ped_ix g (ped_var (i := 5)) (ped_var (i := 21))) (ped_var (i := 12))) (ped_var (i := 17)) (nomark _)) (pssd_one (psd_store set_list d_setIx (ped_ix g (ped_ix g (ped_var (i := 5)) (ped_var (i := 21))) (ped_bin op_sub d_sub ped_int (ped_var (i := 12)))) (ped_var (i := 13)) (ped_var (i := 18)))) pssd_nil)))
  (pssd_cons (psd_setN (i := 14) (pnd_calO g c_plan_of (by decide) (by rfl) (pad_cons (ped_var (i := 15)) (pad_cons (ped_var (i := 16)) (pad_cons (ped_var (i := 12)) (pad_cons (ped_var (i := 17)) (pad_cons (ped_var (i := 10)) pad_nil)))))) g.nd)
  (pssd_one (psd_if (ptd_w (pwd_or (ptd_not (ptd_truth g (ped_calB g c__law_same (by decide) f__law_same_len (by rfl) (pad_cons (ped_var (i := 14)) (pad_cons (ped_var (i := 13)) pad_nil))))) (pwd_or1 (ptd_not (ptd_truth g (ped_calC g c__law_same (by decide) (by rfl) (pad_cons (ped_calB g c_gaps_of (by decide) f_gaps_of_len (by rfl) (pad_cons (ped_var (i := 14)) pad_nil)) (pad_cons (ped_calB g c__law_gaps (by decide) f__law_gaps_len (by rfl) (pad_cons (ped_var (i := 13)) pad_nil)) pad_nil)))))))) (pssd_one (psd_ret ped_bl)) pssd_nil))))))))
  (pssd_cons (psd_setLcN (i := 13) g (pid_range1 (by rfl) T.b_range (pad_cons (ped_calC g c__law_draw (by decide) (by rfl) (pad_cons (ped_var (i := 1)) (pad_cons ped_int pad_nil))) pad_nil)) (blkOk_by (N := n_law) (sc := (defScope s_law)) (own := [("period", 18)]) (by decide +kernel)) (fun _ _ _ _ _ => (pgd_name (i := 18) (g.blk).nd)) (fun _ _ _ _ _ => ptsd_nil) (fun _ _ _ _ _ => (ped_calC (g.blk) c__law_pick (by decide) (by rfl) (pad_cons (ped_var (i := 1)) (pad_cons (ped_n (pnd_lst (pad_cons ped_non (pad_cons ped_non (pad_cons ped_int (pad_cons ped_int (pad_cons ped_non pad_nil))))))) pad_nil)))) (sw_true rfl rfl rfl (by decide +kernel)))
  (pssd_cons (psd_setN (i := 14) (pnd_callTy (call_listK g) d_list1 (by rfl) T.b_list boot_list (pad_cons (ped_var (i := 13)) pad_nil)) g.nd)
  (pssd_one (psd_if (ptd_w (pwd_or (ptd_not (ptd_truth g (ped_calC g c__law_same (by decide) (by rfl) (pad_cons (ped_calB g c_gaps_of (by decide) f_gaps_of_len (by rfl) (pad_cons (ped_var (i := 14)) pad_nil)) (pad_cons (ped_calB g c__law_gaps (by decide) f__law_gaps_len (by rfl) (pad_cons (ped_var (i := 13)) pad_nil)) pad_nil))))) (pwd_or1 (ptd_cmp (op_neK g) d_ne (ped_var (i := 14)) (ped_var (i := 13)) (nomark _))))) (pssd_one (psd_ret ped_bl)) pssd_nil))))))))))))))))))
  (pssd_cons (psd_if (ptd_w (pwd_or (ptd_not (ptd_truth g (ped_calC g c__law_same (by decide) (by rfl) (pad_cons (ped_n (pnd_calO g c_evened (by decide) (by rfl) (pad_cons (ped_n (pnd_lst pad_nil)) (pad_cons (ped_n (pnd_lst pad_nil)) (pad_cons ped_int pad_nil))))) (pad_cons (ped_n (pnd_lst pad_nil)) pad_nil))))) (pwd_or (ptd_not (ptd_truth g (ped_calC g c__law_same (by decide) (by rfl) (pad_cons (ped_calC g c_even_rooms (by decide) (by rfl) (pad_cons (ped_n (pnd_lst pad_nil)) (pad_cons ped_int pad_nil))) (pad_cons ped_int pad_nil))))) (pwd_or1 (ptd_not (ptd_truth g (ped_calC g c__law_same (by decide) (by rfl) (pad_cons (ped_calC g c_rooms_needed (by decide) (by rfl) (pad_cons (ped_n (pnd_lst pad_nil)) (pad_cons (ped_n (pnd_lst pad_nil)) pad_nil))) (pad_cons ped_int pad_nil))))))))) (pssd_one (psd_ret ped_bl)) pssd_nil)
  (pssd_cons (psd_if (ptd_w (pwd_or (ptd_not (ptd_truth g (ped_calC g c__law_same (by decide) (by rfl) (pad_cons (ped_calC g c_gaps_of (by decide) (by rfl) (pad_cons (ped_n (pnd_lst (pad_cons ped_non (pad_cons ped_int (pad_cons ped_non (pad_cons ped_non (pad_cons ped_int (pad_cons ped_non pad_nil)))))))) pad_nil)) (pad_cons ped_int pad_nil))))) (pwd_or1 (ptd_not (ptd_truth g (ped_calC g c__law_same (by decide) (by rfl) (pad_cons (ped_calC g c_gaps_of (by decide) (by rfl) (pad_cons (ped_n (pnd_lst pad_nil)) pad_nil)) (pad_cons ped_int pad_nil)))))))) (pssd_one (psd_ret ped_bl)) pssd_nil)
  (pssd_one (psd_ret (ped_and (ped_calC g c__law_same (by decide) (by rfl) (pad_cons (ped_calC g c_even_rooms (by decide) (by rfl) (pad_cons (ped_n (pnd_lst (pad_cons (ped_tup (pad_cons ped_int (pad_cons ped_int pad_nil))) (pad_cons (ped_tup (pad_cons ped_int (pad_cons ped_int pad_nil))) (pad_cons (ped_tup (pad_cons ped_int (pad_cons ped_int pad_nil))) pad_nil))))) (pad_cons ped_int pad_nil))) (pad_cons ped_int pad_nil))) (ped_one (ped_calC g c__law_same (by decide) (by rfl) (pad_cons (ped_n (pnd_calO g c_plan_of (by decide) (by rfl) (pad_cons (ped_n (pnd_lst (pad_cons (ped_tup (pad_cons ped_int (pad_cons ped_int pad_nil))) pad_nil))) (pad_cons (ped_n (pnd_lst (pad_cons ped_int pad_nil))) (pad_cons ped_int (pad_cons ped_int (pad_cons ped_int pad_nil))))))) (pad_cons (ped_n (pnd_lst (pad_cons ped_non (pad_cons ped_int (pad_cons ped_non pad_nil))))) pad_nil)))))))))))
theorem c_all (T : Bl K mg) (d_rooms_needed : Def K mg "rooms_needed" s_rooms_needed p_rooms_needed) (d_even_rooms : Def K mg "even_rooms" s_even_rooms p_even_rooms) (d_shares : Def K mg "shares" s_shares p_shares) (d_chains_of : Def K mg "chains_of" s_chains_of p_chains_of) (d_evened : Def K mg "evened" s_evened p_evened) (d_plan_of : Def K mg "plan_of" s_plan_of p_plan_of) (d_gaps_of : Def K mg "gaps_of" s_gaps_of p_gaps_of) (d__law_cell : Def K mg "_law_cell" s__law_cell p__law_cell) (d__law_digits : Def K mg "_law_digits" s__law_digits p__law_digits) (d__law_draw : Def K mg "_law_draw" s__law_draw p__law_draw) (d__law_pick : Def K mg "_law_pick" s__law_pick p__law_pick) (d__law_same : Def K mg "_law_same" s__law_same p__law_same) (d__law_mixed : Def K mg "_law_mixed" s__law_mixed p__law_mixed) (d__law_placed : Def K mg "_law_placed" s__law_placed p__law_placed) (d__law_even : Def K mg "_law_even" s__law_even p__law_even) (d__law_gaps : Def K mg "_law_gaps" s__law_gaps p__law_gaps) (d_law : Def K mg "law" s_law p_law) : Cal P w K mg base "law" 9 ["script"] [false] f_law :=
  have c_rooms_needed := c_rooms_needed (P := P) (w := w) (base := base) T d_rooms_needed 
  have c_even_rooms := c_even_rooms (P := P) (w := w) (base := base) T d_even_rooms 
  have c_shares := c_shares (P := P) (w := w) (base := base) T d_shares 
  have c_chains_of := c_chains_of (P := P) (w := w) (base := base) T d_chains_of c_shares
  have c_evened := c_evened (P := P) (w := w) (base := base) T d_evened c_chains_of
  have c_plan_of := c_plan_of (P := P) (w := w) (base := base) T d_plan_of 
  have c_gaps_of := c_gaps_of (P := P) (w := w) (base := base) T d_gaps_of 
  have c__law_cell := c__law_cell (P := P) (w := w) (base := base) T d__law_cell 
  have c__law_digits := c__law_digits (P := P) (w := w) (base := base) T d__law_digits c__law_cell
  have c__law_draw := c__law_draw (P := P) (w := w) (base := base) T d__law_draw 
  have c__law_pick := c__law_pick (P := P) (w := w) (base := base) T d__law_pick c__law_draw
  have c__law_same := c__law_same (P := P) (w := w) (base := base) T d__law_same 
  have c__law_mixed := c__law_mixed (P := P) (w := w) (base := base) T d__law_mixed c__law_draw
  have c__law_placed := c__law_placed (P := P) (w := w) (base := base) T d__law_placed c__law_draw c__law_mixed c__law_pick
  have c__law_even := c__law_even (P := P) (w := w) (base := base) T d__law_even 
  have c__law_gaps := c__law_gaps (P := P) (w := w) (base := base) T d__law_gaps 
  c_law T d_law c__law_digits c__law_placed c__law_same c__law_draw c_evened c__law_pick c_even_rooms c_plan_of c_rooms_needed c_gaps_of c__law_even c__law_gaps
end
end K49

/-! reckoning with denotations -/
namespace HD
open PySem

/-! one step at a time: what an operand, an operator, a statement gives where its parts are known -/
@[simp] theorem get_dat (e : Env) (d : D) : R.get e (.dat d) = some d := id rfl
@[simp] theorem take_dat (e : Env) (d : D) : R.take e (.dat d) = some (d, e) := id rfl
@[simp] theorem dC_ (d : D) (e : Env) : dC d e = some (.dat d, e) := id rfl
@[simp] theorem dNx_ (e : Env) : dNx e = some (.nx e) := id rfl
@[simp] theorem dBrk_ (e : Env) : dBrk e = some (.bk e) := id rfl
@[simp] theorem dCont_ (e : Env) : dCont e = some (.ct e) := id rfl
@[simp] theorem dYes_ (e : Env) : dYes e = some (true, e) := id rfl
@[simp] theorem dA0_ (e : Env) : dA0 e = some ([], e) := id rfl
@[simp] theorem dP0_ (e : Env) : dP0 e = some (none, e) := id rfl
@[simp] theorem add_int (a b : Int) : D.add (.int a) (.int b) = some (.int (a + b)) := id rfl
@[simp] theorem iadd_int (a b : Int) : D.iadd (.int a) (.int b) = some (.int (a + b)) := id rfl
@[simp] theorem sub_int (a b : Int) : D.sub (.int a) (.int b) = some (.int (a - b)) := id rfl
@[simp] theorem neg_int (a : Int) : D.neg (.int a) = some (.int (-a)) := id rfl
@[simp] theorem lt_int (a b : Int) : D.lt (.int a) (.int b) = some (.bool (decide (a < b))) := id rfl
@[simp] theorem le_int (a b : Int) : D.le (.int a) (.int b) = some (.bool (decide (a ≤ b))) := id rfl
@[simp] theorem gt_int (a b : Int) : D.gt (.int a) (.int b) = some (.bool (decide (b < a))) := id rfl
@[simp] theorem ge_int (a b : Int) : D.ge (.int a) (.int b) = some (.bool (decide (b ≤ a))) := id rfl
@[simp] theorem shaped_int (a : Int) : SeqAt.shaped (.int a) = true := id rfl
@[simp] theorem shaped_bool (a : Bool) : SeqAt.shaped (.bool a) = true := id rfl
@[simp] theorem shaped_none : SeqAt.shaped .none = true := id rfl
@[simp] theorem eq_int (a b : Int) : D.eq (.int a) (.int b) = some (.bool (decide (a = b))) := by
  simp [D.eq, D.eqS]
@[simp] theorem ne_int (a b : Int) : D.ne (.int a) (.int b) = some (.bool (!decide (a = b))) := by
  simp [D.ne, D.neS]
@[simp] theorem eq_str (a b : Str) : D.eq (.str a) (.str b) = some (.bool (decide (a = b))) := by
  simp [D.eq, D.eqS]
@[simp] theorem ne_str (a b : Str) : D.ne (.str a) (.str b) = some (.bool (!decide (a = b))) := by
  simp [D.ne, D.neS]
@[simp] theorem eq_bool (a b : Bool) : D.eq (.bool a) (.bool b) = some (.bool (a == b)) := by
  simp [D.eq, D.eqS, D.eqG, PyData.eqv]
@[simp] theorem isN_ (d : D) : D.isN d .none = some (.bool d.isNone) := by cases d <;> rfl
@[simp] theorem notN_ (d : D) : D.notN d .none = some (.bool (!d.isNone)) := by cases d <;> rfl
@[simp] theorem isNone_none : D.isNone .none = true := id rfl
@[simp] theorem isNone_int (a : Int) : D.isNone (.int a) = false := id rfl
@[simp] theorem isNone_str (a : Str) : D.isNone (.str a) = false := id rfl
@[simp] theorem isNone_bool (a : Bool) : D.isNone (.bool a) = false := id rfl
@[simp] theorem isNone_list (a : List D) : D.isNone (.list a) = false := id rfl
@[simp] theorem isNone_tuple (a : List D) : D.isNone (.tuple a) = false := id rfl
@[simp] theorem int1_int (a : Int) : D.int1 [.int a] = some (.int a) := id rfl
@[simp] theorem int1_bool (a : Bool) : D.int1 [.bool a] = some (.int (if a then 1 else 0)) := id rfl
@[simp] theorem len_list (a : List D) : D.len [.list a] = some (.int a.length) := id rfl
@[simp] theorem len_tuple (a : List D) : D.len [.tuple a] = some (.int a.length) := id rfl
@[simp] theorem truth_bool (b : Bool) : D.truth (.bool b) = some b := id rfl
@[simp] theorem truth_int (b : Int) : D.truth (.int b) = some (b != 0) := id rfl
@[simp] theorem truth_none : D.truth .none = some false := id rfl
@[simp] theorem truth_list (b : List D) : D.truth (.list b) = some (!b.isEmpty) := id rfl
theorem mod_int {a b : Int} (h : 0 < b) : D.mod (.int a) (.int b) = some (.int (a % b)) := by simp [D.mod, h]
theorem fdiv_int {a b : Int} (h : 0 < b) (h2 : b < 1073741824) : D.fdiv (.int a) (.int b) = some (.int (a / b)) := by
  have : b.natAbs < 1073741824 := by omega
  exact if_pos ⟨h, .inl this⟩
theorem mul_int {a b : Int} (h : (-18446744073709551616 < a ∧ a < 18446744073709551616) ∨ (-18446744073709551616 < b ∧ b < 18446744073709551616)) : D.mul (.int a) (.int b) = some (.int (a * b)) := by
  have : a.natAbs < 18446744073709551616 ∨ b.natAbs < 18446744073709551616 := by omega
  exact if_pos (.inl this)
theorem imul_int {a b : Int} (h : (-18446744073709551616 < a ∧ a < 18446744073709551616) ∨ (-18446744073709551616 < b ∧ b < 18446744073709551616)) : D.imul (.int a) (.int b) = some (.int (a * b)) := by
  have : a.natAbs < 18446744073709551616 ∨ b.natAbs < 18446744073709551616 := by omega
  exact if_pos this
theorem ix_list {ds : List D} {i : Nat} {d : D} (h : ds[i]? = some d) : D.ix (.list ds) (.int i) = some d := L2.atI_nat h
theorem ix_tuple {ds : List D} {i : Nat} {d : D} (h : ds[i]? = some d) : D.ix (.tuple ds) (.int i) = some d := L2.atI_nat h
theorem setC_of {e : Env} {i : Nat} {c c0 : Cell} (h : e[i]? = some c0) (hn : ∀ d, c0 ≠ .io d) : setC e i c = some (e.set i c) := by
  unfold setC
  rw [h]
  cases c0 with
  | io d => exact (hn d rfl).elim
  | _ => rfl
/-! loops -/
theorem for_nil (g : GD) (t : SD) (e : Env) : dForGo g t [] e = some (.nx e) := rfl
theorem for_nx {g : GD} {t : SD} {d : D} {ds : List D} {e e1 e2 : Env} (h1 : g d e = some e1) (h2 : t e1 = some (.nx e2)) : dForGo g t (d :: ds) e = dForGo g t ds e2 := by
  simp only [dForGo, h1, h2, Option.bind_some]
theorem for_ct {g : GD} {t : SD} {d : D} {ds : List D} {e e1 e2 : Env} (h1 : g d e = some e1) (h2 : t e1 = some (.ct e2)) : dForGo g t (d :: ds) e = dForGo g t ds e2 := by
  simp only [dForGo, h1, h2, Option.bind_some]
theorem for_bk {g : GD} {t : SD} {d : D} {ds : List D} {e e1 e2 : Env} (h1 : g d e = some e1) (h2 : t e1 = some (.bk e2)) : dForGo g t (d :: ds) e = some (.nx e2) := by
  simp only [dForGo, h1, h2, Option.bind_some]
theorem for_rt {g : GD} {t : SD} {d r : D} {ds : List D} {e e1 e2 : Env} (h1 : g d e = some e1) (h2 : t e1 = some (.rt r e2)) : dForGo g t (d :: ds) e = some (.rt r e2) := by
  simp only [dForGo, h1, h2, Option.bind_some]
/-- by an invariant over the turn -/
theorem for_inv {g : GD} {t : SD} {ds : List D} (I : Nat → Env → Prop) (step : ∀ (i : Nat) (d : D) (e : Env), ds[i]? = some d → I i e → ∃ e1 e2, g d e = some e1 ∧ (t e1 = some (.nx e2) ∨ t e1 = some (.ct e2)) ∧ I (i + 1) e2) {e : Env} (h0 : I 0 e) :
    ∃ e', dForGo g t ds e = some (.nx e') ∧ I ds.length e' := by
  have key : ∀ (n i : Nat) (e : Env), n + i = ds.length → I i e → ∃ e', dForGo g t (ds.drop i) e = some (.nx e') ∧ I ds.length e' := by
    intro n
    induction n with
    | zero =>
      intro i e hi h
      have : i = ds.length := by omega
      subst this
      rw [List.drop_length]
      exact ⟨e, rfl, h⟩
    | succ n ih =>
      intro i e hi h
      have hlt : i < ds.length := by omega
      have hd := List.getElem?_eq_getElem hlt
      obtain ⟨e1, e2, h1, h2, h3⟩ := step i _ e hd h
      rw [List.drop_eq_getElem_cons hlt]
      rcases h2 with h2 | h2
      · rw [for_nx h1 h2]; exact ih (i + 1) e2 (by omega) h3
      · rw [for_ct h1 h2]; exact ih (i + 1) e2 (by omega) h3
  have := key ds.length 0 e (by omega) h0
  rwa [List.drop_zero] at this
theorem while_stop {c : TD} {t : SD} {n : Nat} {e e1 : Env} (h : c e = some (false, e1)) : dWhile c t (n + 1) e = some (.nx e1) := by
  simp [dWhile, h]
theorem while_nx {c : TD} {t : SD} {n : Nat} {e e1 e2 : Env} (h : c e = some (true, e1)) (h2 : t e1 = some (.nx e2)) : dWhile c t (n + 1) e = dWhile c t n e2 := by
  simp [dWhile, h, h2]
theorem while_bk {c : TD} {t : SD} {n : Nat} {e e1 e2 : Env} (h : c e = some (true, e1)) (h2 : t e1 = some (.bk e2)) : dWhile c t (n + 1) e = some (.nx e2) := by
  simp [dWhile, h, h2]
theorem while_rt {c : TD} {t : SD} {n : Nat} {e e1 e2 : Env} {r : D} (h : c e = some (true, e1)) (h2 : t e1 = some (.rt r e2)) : dWhile c t (n + 1) e = some (.rt r e2) := by
  simp [dWhile, h, h2]
end HD

/-! denotations stepped by simp: each former, handed an environment -/
namespace HD
open PySem
def seqK (u : SD) : Out → Option Out
  | .nx e => u e
  | .bk e => some (.bk e)
  | .ct e => some (.ct e)
  | .rt d e => some (.rt d e)
  | .ro d e => some (.ro d e)
@[simp] theorem seqK_ro (u : SD) (d : D) (e : Env) : seqK u (.ro d e) = some (.ro d e) := id rfl
@[simp] theorem seqK_nx (u : SD) (e : Env) : seqK u (.nx e) = u e := id rfl
@[simp] theorem seqK_bk (u : SD) (e : Env) : seqK u (.bk e) = some (.bk e) := id rfl
@[simp] theorem seqK_ct (u : SD) (e : Env) : seqK u (.ct e) = some (.ct e) := id rfl
@[simp] theorem seqK_rt (u : SD) (d : D) (e : Env) : seqK u (.rt d e) = some (.rt d e) := id rfl
@[simp] theorem dSeq_ (t u : SD) (e : Env) : dSeq t u e = (t e).bind (seqK u) := by
  unfold dSeq; congr 1; funext o; cases o <;> rfl
@[simp] theorem dIfS_ (c : TD) (t u : SD) (e : Env) : dIfS c t u e = (c e).bind fun p => if p.1 = true then t p.2 else u p.2 := id rfl
@[simp] theorem dRet_ (f : XD) (e : Env) : dRet f e = (f e).bind fun p => (p.1.take p.2).map fun q => .rt q.1 q.2 := id rfl
@[simp] theorem dRetN_ (e : Env) : dRetN e = some (.rt .none e) := id rfl
@[simp] theorem dDrop_ (f : XD) (e : Env) : dDrop f e = (f e).map fun p => .nx p.2 := id rfl
@[simp] theorem dSet_ (i : Nat) (f : XD) (e : Env) : dSet i f e = (f e).bind fun p => (p.1.take p.2).bind fun q => (setC q.2 i (.dat q.1)).map .nx := id rfl
@[simp] theorem dSetN_ (i : Nat) (g : ND) (e : Env) : dSetN i g e = (g e).bind fun p => (setC p.2 i (.own p.1)).map .nx := id rfl
@[simp] theorem gdName_ (i : Nat) (d : D) (e : Env) : gdName i d e = setC e i (.dat d) := id rfl
@[simp] theorem gdNil_ (e : Env) : gdNil [] e = some e := id rfl
@[simp] theorem gdCons_ (g : GD) (r : GDs) (d : D) (ds : List D) (e : Env) : gdCons g r (d :: ds) e = (g d e).bind fun e1 => r ds e1 := id rfl
@[simp] theorem gdTup_ (n : Nat) (r : GDs) (ds : List D) (e : Env) : gdTup n r (.tuple ds) e = if ds.length = n then r ds e else none := id rfl
@[simp] theorem gdLst_ (n : Nat) (r : GDs) (ds : List D) (e : Env) : gdLst n r (.list ds) e = if ds.length = n then r ds e else none := id rfl
@[simp] theorem dAsg_ (f : XD) (g : GD) (e : Env) : dAsg f g e = (f e).bind fun p => (p.1.take p.2).bind fun q => (g q.1 q.2).map .nx := id rfl
@[simp] theorem takeAll_nil (e : Env) : takeAll e [] = some ([], e) := id rfl
@[simp] theorem takeAll_cons (e : Env) (r : R) (rs : List R) : takeAll e (r :: rs) = (r.take e).bind fun p => (takeAll p.2 rs).map fun q => (p.1 :: q.1, q.2) := id rfl
def parK (i j : Nat) (e : Env) : List D → Option Out
  | [x, y] => (setC e i (.dat x)).bind fun e1 => (setC e1 j (.dat y)).map .nx
  | _ => none
@[simp] theorem parK_ (i j : Nat) (e : Env) (x y : D) : parK i j e [x, y] = (setC e i (.dat x)).bind fun e1 => (setC e1 j (.dat y)).map .nx := id rfl
@[simp] theorem dPar_ (i j : Nat) (fa : AD) (e : Env) : dPar i j fa e = (fa e).bind fun p => (takeAll p.2 p.1).bind fun q => parK i j q.2 q.1 := by
  unfold dPar; congr 1
def augK (i : Nat) (g : D → D → Option D) (f : XD) (e : Env) : Option Cell → Option Out
  | some (.dat d) => (f e).bind fun p => (p.1.get p.2).bind fun y => (g d y).bind fun z => (setC p.2 i (.dat z)).map .nx
  | _ => none
@[simp] theorem augK_ (i : Nat) (g : D → D → Option D) (f : XD) (e : Env) (d : D) : augK i g f e (some (.dat d)) = (f e).bind fun p => (p.1.get p.2).bind fun y => (g d y).bind fun z => (setC p.2 i (.dat z)).map .nx := id rfl
@[simp] theorem dAug_ (i : Nat) (g : D → D → Option D) (f : XD) (e : Env) : dAug i g f e = augK i g f e e[i]? := by
  unfold dAug augK; cases e[i]? with
  | none => rfl
  | some c => cases c <;> rfl
def storeK (g : D → D → D → Option D) (fi : XD) (v : D) (e : Env) : R → Option Out
  | .slot j => (fi e).bind fun s => (s.1.get s.2).bind fun di => (cellAt s.2 j).bind fun d => (g d di v).bind fun z => (setH s.2 j z).map .nx
  | .dat _ => none
@[simp] theorem storeK_ (g : D → D → D → Option D) (fi : XD) (v : D) (e : Env) (j : Nat) : storeK g fi v e (.slot j) = (fi e).bind fun s => (s.1.get s.2).bind fun di => (cellAt s.2 j).bind fun d => (g d di v).bind fun z => (setH s.2 j z).map .nx := id rfl
@[simp] theorem dStore_ (g : D → D → D → Option D) (f fo fi : XD) (e : Env) : dStore g f fo fi e = (f e).bind fun p => (p.1.take p.2).bind fun q => (fo q.2).bind fun r => storeK g fi q.1 r.2 r.1 := by
  unfold dStore; congr 1
def cellK (i : Nat) (e : Env) : Option Cell → Option (R × Env)
  | some (.dat d) => some (.dat d, e)
  | some (.own _) => some (.slot i, e)
  | some (.io _) => some (.slot i, e)
  | _ => none
@[simp] theorem cellK_dat (i : Nat) (e : Env) (d : D) : cellK i e (some (.dat d)) = some (.dat d, e) := id rfl
@[simp] theorem cellK_own (i : Nat) (e : Env) (d : D) : cellK i e (some (.own d)) = some (.slot i, e) := id rfl
@[simp] theorem cellK_io (i : Nat) (e : Env) (d : D) : cellK i e (some (.io d)) = some (.slot i, e) := id rfl
@[simp] theorem dVar_ (i : Nat) (e : Env) : dVar i e = cellK i e e[i]? := by
  unfold dVar cellK; cases e[i]? with
  | none => rfl
  | some c => cases c <;> rfl
def setCK (e : Env) (i : Nat) (c : Cell) : Option Cell → Option Env
  | none => none
  | some (.io _) => none
  | some _ => some (e.set i c)
@[simp] theorem setCK_dat (e : Env) (i : Nat) (c : Cell) (d : D) : setCK e i c (some (.dat d)) = some (e.set i c) := id rfl
@[simp] theorem setCK_own (e : Env) (i : Nat) (c : Cell) (d : D) : setCK e i c (some (.own d)) = some (e.set i c) := id rfl
@[simp] theorem setCK_un (e : Env) (i : Nat) (c : Cell) : setCK e i c (some .un) = some (e.set i c) := id rfl
@[simp] theorem setC_ (e : Env) (i : Nat) (c : Cell) : setC e i c = setCK e i c e[i]? := by
  unfold setC setCK; cases e[i]? with
  | none => rfl
  | some c => cases c <;> rfl
def setHK (e : Env) (i : Nat) (d : D) : Option Cell → Option Env
  | some (.own _) => some (e.set i (.own d))
  | some (.io _) => some (e.set i (.io d))
  | _ => none
@[simp] theorem setHK_own (e : Env) (i : Nat) (d d' : D) : setHK e i d (some (.own d')) = some (e.set i (.own d)) := id rfl
@[simp] theorem setHK_io (e : Env) (i : Nat) (d d' : D) : setHK e i d (some (.io d')) = some (e.set i (.io d)) := id rfl
@[simp] theorem setH_ (e : Env) (i : Nat) (d : D) : setH e i d = setHK e i d e[i]? := by
  unfold setH setHK; cases e[i]? with
  | none => rfl
  | some c => cases c <;> rfl
@[simp] theorem held_dat (d : D) : Cell.held (.dat d) = none := id rfl
@[simp] theorem held_own (d : D) : Cell.held (.own d) = some d := id rfl
@[simp] theorem held_io (d : D) : Cell.held (.io d) = some d := id rfl
@[simp] theorem cellAt_ (e : Env) (i : Nat) : cellAt e i = (e[i]?).bind Cell.held := id rfl
@[simp] theorem get_slot (e : Env) (i : Nat) : R.get e (.slot i) = (e[i]?).bind Cell.held := by
  first | rfl | (simp [R.get, cellAt])
def takeK (e : Env) (i : Nat) : Option Cell → Option (D × Env)
  | some (.own d) => some (d, e.set i (.dat d))
  | _ => none
@[simp] theorem takeK_own (e : Env) (i : Nat) (d : D) : takeK e i (some (.own d)) = some (d, e.set i (.dat d)) := id rfl
@[simp] theorem take_slot (e : Env) (i : Nat) : R.take e (.slot i) = takeK e i e[i]? := by
  unfold R.take takeK; rfl
@[simp] theorem dN_ (f : ND) (e : Env) : dN f e = (f e).map fun p => (.dat p.1, p.2) := id rfl
@[simp] theorem dBin_ (g : D → D → Option D) (a b : XD) (e : Env) : dBin g a b e = (a e).bind fun p => (b p.2).bind fun q => (p.1.get q.2).bind fun x => (q.1.get q.2).bind fun y => (g x y).map fun z => (.dat z, q.2) := id rfl
@[simp] theorem dUn_ (g : D → Option D) (a : XD) (e : Env) : dUn g a e = (a e).bind fun p => (p.1.get p.2).bind fun x => (g x).map fun z => (.dat z, p.2) := id rfl
def boolK (e : Env) : R → Option (Bool × Env)
  | .dat (.bool b) => some (b, e)
  | _ => none
@[simp] theorem boolK_ (e : Env) (b : Bool) : boolK e (.dat (.bool b)) = some (b, e) := id rfl
@[simp] theorem dB_ (f : XD) (e : Env) : dB f e = (f e).bind fun p => boolK p.2 p.1 := by
  unfold dB; congr 1
@[simp] theorem dAnd_ (a b : TD) (e : Env) : dAnd a b e = (a e).bind fun p => if p.1 = true then b p.2 else some (false, p.2) := id rfl
@[simp] theorem dOr_ (a b : TD) (e : Env) : dOr a b e = (a e).bind fun p => if p.1 = true then some (true, p.2) else b p.2 := id rfl
@[simp] theorem dNot_ (a : TD) (e : Env) : dNot a e = (a e).map fun p => (!p.1, p.2) := id rfl
@[simp] theorem dAndV_ (a b : XD) (e : Env) : dAndV a b e = (dB a e).bind fun p => if p.1 = true then b p.2 else some (.dat (.bool false), p.2) := id rfl
@[simp] theorem dOrV_ (a b : XD) (e : Env) : dOrV a b e = (dB a e).bind fun p => if p.1 = true then some (.dat (.bool true), p.2) else b p.2 := id rfl
@[simp] theorem dNotV_ (a : XD) (e : Env) : dNotV a e = (dB a e).map fun p => (.dat (.bool (!p.1)), p.2) := id rfl
@[simp] theorem dIf_ (c : TD) (a b : XD) (e : Env) : dIf c a b e = (c e).bind fun p => if p.1 = true then a p.2 else b p.2 := id rfl
@[simp] theorem dTr_ (a : XD) (e : Env) : dTr a e = (a e).bind fun p => (p.1.get p.2).bind fun x => (D.truth x).map fun b => (b, p.2) := id rfl
@[simp] theorem dA1_ (a : XD) (r : AD) (e : Env) : dA1 a r e = (a e).bind fun p => (r p.2).map fun q => (p.1 :: q.1, q.2) := id rfl
@[simp] theorem gets_nil (e : Env) : gets e [] = some [] := id rfl
@[simp] theorem gets_cons (e : Env) (r : R) (rs : List R) : gets e (r :: rs) = (r.get e).bind fun d => (gets e rs).map fun ds => d :: ds := id rfl
@[simp] theorem dCB_ (g : List D → Option D) (fa : AD) (e : Env) : dCB g fa e = (fa e).bind fun p => (gets p.2 p.1).bind fun xs => (g xs).map fun z => (.dat z, p.2) := id rfl
@[simp] theorem dBinN_ (g : D → D → Option D) (a b : XD) (e : Env) : dBinN g a b e = (a e).bind fun p => (b p.2).bind fun q => (p.1.get q.2).bind fun x => (q.1.get q.2).bind fun y => (g x y).map fun z => (z, q.2) := id rfl
@[simp] theorem dCBN_ (g : List D → Option D) (fa : AD) (e : Env) : dCBN g fa e = (fa e).bind fun p => (gets p.2 p.1).bind fun xs => (g xs).map fun z => (z, p.2) := id rfl
@[simp] theorem dLst_ (fa : AD) (e : Env) : dLst fa e = (fa e).bind fun p => (takeAll p.2 p.1).bind fun q => if q.1.length ≤ 16777216 then some (.list q.1, q.2) else none := id rfl
@[simp] theorem dTup_ (fa : AD) (e : Env) : dTup fa e = (fa e).bind fun p => (takeAll p.2 p.1).bind fun q => if q.1.length ≤ 16777216 then some (.dat (.tuple q.1), q.2) else none := id rfl
@[simp] theorem dI_ (g : D → Option (List D)) (f : XD) (e : Env) : dI g f e = (f e).bind fun p => (p.1.take p.2).bind fun q => (g q.1).map fun ds => (ds, q.2) := id rfl
@[simp] theorem dIA_ (g : List D → Option (List D)) (f : AD) (e : Env) : dIA g f e = (f e).bind fun p => (gets p.2 p.1).bind fun xs => (g xs).map fun ds => (ds, p.2) := id rfl
@[simp] theorem dIT_ (g : List D → Option (List D)) (f : AD) (e : Env) : dIT g f e = (f e).bind fun p => (takeAll p.2 p.1).bind fun q => (g q.1).map fun ds => (ds, q.2) := id rfl
def slotK (i : Nat) (e : Env) : Option Cell → Option (R × Env)
  | some (.own (.list _)) => some (.slot i, e)
  | some (.io (.list _)) => some (.slot i, e)
  | _ => none
@[simp] theorem slotK_own (i : Nat) (e : Env) (ds : List D) : slotK i e (some (.own (.list ds))) = some (.slot i, e) := id rfl
@[simp] theorem slotK_io (i : Nat) (e : Env) (ds : List D) : slotK i e (some (.io (.list ds))) = some (.slot i, e) := id rfl
@[simp] theorem dSlot_ (i : Nat) (e : Env) : dSlot i e = slotK i e e[i]? := by
  unfold dSlot slotK; rfl
def mutK (g : D → List D → Option (D × D)) (e : Env) (xs : List D) : R → Option (R × Env)
  | .slot j => (cellAt e j).bind fun c => (g c xs).bind fun z => (setH e j z.2).map fun e' => (.dat z.1, e')
  | .dat _ => none
@[simp] theorem mutK_ (g : D → List D → Option (D × D)) (e : Env) (xs : List D) (j : Nat) : mutK g e xs (.slot j) = (cellAt e j).bind fun c => (g c xs).bind fun z => (setH e j z.2).map fun e' => (.dat z.1, e') := id rfl
@[simp] theorem dMut_ (g : D → List D → Option (D × D)) (fo : XD) (fa : AD) (e : Env) : dMut g fo fa e = (fo e).bind fun p => (fa p.2).bind fun q => (takeAll q.2 q.1).bind fun a => mutK g a.2 a.1 p.1 := by
  unfold dMut; congr 1
@[simp] theorem argsT_nil (e : Env) : argsT [] [] e = some ([], e) := id rfl
@[simp] theorem argsT_dat (ms : List Bool) (r : R) (rs : List R) (e : Env) : argsT (false :: ms) (r :: rs) e = (r.take e).bind fun p => (argsT ms rs p.2).map fun q => (p.1 :: q.1, q.2) := id rfl
@[simp] theorem argsT_io (ms : List Bool) (i : Nat) (rs : List R) (e : Env) : argsT (true :: ms) (.slot i :: rs) e = (argsT ms rs e).bind fun q => (cellAt q.2 i).map fun d => (d :: q.1, q.2) := id rfl
@[simp] theorem slotsT_nil : slotsT [] [] = [] := id rfl
@[simp] theorem slotsT_io (ms : List Bool) (i : Nat) (rs : List R) : slotsT (true :: ms) (.slot i :: rs) = i :: slotsT ms rs := id rfl
@[simp] theorem slotsT_dat (ms : List Bool) (r : R) (rs : List R) : slotsT (false :: ms) (r :: rs) = slotsT ms rs := by cases r <;> rfl
@[simp] theorem putT_nil (e : Env) : putT [] [] e = some e := id rfl
@[simp] theorem putT_cons (i : Nat) (is : List Nat) (d : D) (ds : List D) (e : Env) : putT (i :: is) (d :: ds) e = (setH e i d).bind fun e' => putT is ds e' := id rfl
@[simp] theorem dCall_ (ms : List Bool) (f : List D → Option (D × List D)) (fa : AD) (e : Env) : dCall ms f fa e = (fa e).bind fun p => (argsT ms p.1 p.2).bind fun a => if (slotsT ms p.1).Nodup then
  (f a.1).bind fun z => (putT (slotsT ms p.1) z.2 a.2).map fun e' => (.dat z.1, e') else none := id rfl
@[simp] theorem dCallB_ (ms : List Bool) (f : List D → Option (D × List D)) (fa : AD) (e : Env) : dCallB ms f fa e = (fa e).bind fun p => (gets p.2 p.1).bind fun ds => (f ds).bind fun z => if z.1.flat = true ∧ ms.all (! ·) = true then some (.dat z.1, p.2) else none := id rfl
@[simp] theorem flat_int (i : Int) : D.flat (.int i) = true := id rfl
@[simp] theorem flat_bool (i : Bool) : D.flat (.bool i) = true := id rfl
@[simp] theorem flat_str (i : Str) : D.flat (.str i) = true := id rfl
@[simp] theorem flat_none : D.flat .none = true := id rfl
@[simp] theorem initE_nil : initE [] [] = some [] := id rfl
@[simp] theorem initE_io (ms : List Bool) (d : D) (ds : List D) : initE (true :: ms) (d :: ds) = (initE ms ds).map fun e => .io d :: e := id rfl
@[simp] theorem initE_dat (ms : List Bool) (d : D) (ds : List D) : initE (false :: ms) (d :: ds) = (initE ms ds).map fun e => .dat d :: e := id rfl
def outK : Option Cell → Option D
  | some (.io d) => some d
  | _ => none
@[simp] theorem outK_ (d : D) : outK (some (.io d)) = some d := id rfl
@[simp] theorem outsE_nil (e : Env) (i : Nat) : outsE e i [] = some [] := by unfold outsE; rfl
@[simp] theorem outsE_dat (e : Env) (i : Nat) (ms : List Bool) : outsE e i (false :: ms) = outsE e (i + 1) ms := id rfl
@[simp] theorem outsE_io (e : Env) (i : Nat) (ms : List Bool) : outsE e i (true :: ms) = (outK e[i]?).bind fun d => (outsE e (i + 1) ms).map fun ds => d :: ds := by
  rw [outsE]; unfold outK; cases e[i]? with
  | none => rfl
  | some c => cases c <;> rfl
def endK (ms : List Bool) : Out → Option (D × List D)
  | .rt d e' => (outsE e' 0 ms).map fun os => (d, os)
  | .nx e' => (outsE e' 0 ms).map fun os => (.none, os)
  | _ => none
@[simp] theorem endK_rt (ms : List Bool) (d : D) (e : Env) : endK ms (.rt d e) = (outsE e 0 ms).map fun os => (d, os) := id rfl
@[simp] theorem endK_nx (ms : List Bool) (e : Env) : endK ms (.nx e) = (outsE e 0 ms).map fun os => (.none, os) := id rfl
@[simp] theorem dFn_ (n : Nat) (ms : List Bool) (body : SD) (ds : List D) : dFn n ms body ds = (initE ms ds).bind fun e => (body (e ++ List.replicate (n - ms.length) .un)).bind (endK ms) := by
  unfold dFn; congr 1
@[simp] theorem dFor_ (f : ID) (g : GD) (t : SD) (e : Env) : dFor f g t e = (f e).bind fun p => dForGo g t p.1 p.2 := id rfl
def forK (g : GD) (t : SD) (ds : List D) : Out → Option Out
  | .nx e' => dForGo g t ds e'
  | .ct e' => dForGo g t ds e'
  | .bk e' => some (.nx e')
  | .rt d e' => some (.rt d e')
  | .ro d e' => some (.ro d e')
@[simp] theorem forK_ro (g : GD) (t : SD) (ds : List D) (d : D) (e : Env) : forK g t ds (.ro d e) = some (.ro d e) := id rfl
@[simp] theorem forK_nx (g : GD) (t : SD) (ds : List D) (e : Env) : forK g t ds (.nx e) = dForGo g t ds e := id rfl
@[simp] theorem forK_ct (g : GD) (t : SD) (ds : List D) (e : Env) : forK g t ds (.ct e) = dForGo g t ds e := id rfl
@[simp] theorem forK_bk (g : GD) (t : SD) (ds : List D) (e : Env) : forK g t ds (.bk e) = some (.nx e) := id rfl
@[simp] theorem forK_rt (g : GD) (t : SD) (ds : List D) (d : D) (e : Env) : forK g t ds (.rt d e) = some (.rt d e) := id rfl
@[simp] theorem dForGo_nil (g : GD) (t : SD) (e : Env) : dForGo g t [] e = some (.nx e) := id rfl
@[simp] theorem dForGo_cons (g : GD) (t : SD) (d : D) (ds : List D) (e : Env) : dForGo g t (d :: ds) e = (g d e).bind fun e1 => (t e1).bind (forK g t ds) := by
  rw [dForGo]; congr 1
def whileK (c : TD) (t : SD) (n : Nat) : Out → Option Out
  | .nx e' => dWhile c t n e'
  | .ct e' => dWhile c t n e'
  | .bk e' => some (.nx e')
  | .rt d e' => some (.rt d e')
  | .ro d e' => some (.ro d e')
@[simp] theorem whileK_ro (c : TD) (t : SD) (n : Nat) (d : D) (e : Env) : whileK c t n (.ro d e) = some (.ro d e) := id rfl
@[simp] theorem whileK_nx (c : TD) (t : SD) (n : Nat) (e : Env) : whileK c t n (.nx e) = dWhile c t n e := id rfl
@[simp] theorem whileK_ct (c : TD) (t : SD) (n : Nat) (e : Env) : whileK c t n (.ct e) = dWhile c t n e := id rfl
@[simp] theorem whileK_bk (c : TD) (t : SD) (n : Nat) (e : Env) : whileK c t n (.bk e) = some (.nx e) := id rfl
@[simp] theorem whileK_rt (c : TD) (t : SD) (n : Nat) (d : D) (e : Env) : whileK c t n (.rt d e) = some (.rt d e) := id rfl
theorem dWhile_s (c : TD) (t : SD) (n : Nat) (e : Env) : dWhile c t (n + 1) e = (c e).bind fun p => if p.1 = true then (t p.2).bind (whileK c t n) else some (.nx p.2) := by
  rw [dWhile]; congr 1
theorem r1 {n : Int} (h1 : -4611686018427387904 < n) (h2 : n < 4611686018427387904) : range1 [.int n] = some (rangeD 0 n.toNat) := by
  have a1 : n.natAbs < 4611686018427387904 := by omega
  exact if_pos a1
theorem r2 {a n : Int} (h0 : -4611686018427387904 < a) (h4 : a < 4611686018427387904) (h1 : -4611686018427387904 < n) (h2 : n < 4611686018427387904) : range2 [.int a, .int n] = some (rangeD a (n - a).toNat) := by
  have a1 : n.natAbs < 4611686018427387904 := by omega
  have a2 : a.natAbs < 4611686018427387904 := by omega
  exact if_pos ⟨a2, a1⟩
theorem r2n {a b : Int} {n : Nat} (h0 : -4611686018427387904 < a) (h4 : a < 4611686018427387904) (h1 : -4611686018427387904 < b) (h2 : b < 4611686018427387904) (h : n = (b - a).toNat) : range2 [.int a, .int b] = some (rangeD a n) := by rw [h]; exact r2 h0 h4 h1 h2
theorem r1n {b : Int} {n : Nat} (h1 : -4611686018427387904 < b) (h2 : b < 4611686018427387904) (h : n = b.toNat) : range1 [.int b] = some (rangeD 0 n) := by rw [h]; exact r1 h1 h2
theorem range_z (lo : Int) : rangeD lo 0 = [] := rfl
theorem range_s (lo : Int) (n : Nat) : rangeD lo (n + 1) = .int lo :: rangeD (lo + 1) n := by
  simp only [rangeD, List.range_succ_eq_map, List.map_cons, List.map_map]
  congr 1
  · simp
  · apply List.map_congr_left
    intro i _
    simp only [Function.comp]
    congr 1
    push_cast
    omega
@[simp] theorem lst?_list (ds : List D) : D.lst? (.list ds) = some ds := id rfl
@[simp] theorem tup?_tuple (ds : List D) : D.tup? (.tuple ds) = some ds := id rfl
theorem append_list {ds : List D} {x : D} (h : ds.length < 16777216) : D.append (.list ds) [x] = some (.none, .list (ds ++ [x])) := by simp [D.append, h]
@[simp] theorem isB_ (d : D) (b : Bool) : D.isB d (.bool b) = some (.bool (D.isBv d b)) := by cases d <;> rfl
@[simp] theorem notB_ (d : D) (b : Bool) : D.notB d (.bool b) = some (.bool (!D.isBv d b)) := by cases d <;> rfl
@[simp] theorem isBv_bool (a b : Bool) : D.isBv (.bool a) b = (a == b) := id rfl
@[simp] theorem isBv_int (a : Int) (b : Bool) : D.isBv (.int a) b = false := id rfl
@[simp] theorem isBv_str (a : Str) (b : Bool) : D.isBv (.str a) b = false := id rfl
@[simp] theorem isBv_list (a : List D) (b : Bool) : D.isBv (.list a) b = false := id rfl
@[simp] theorem isBv_tuple (a : List D) (b : Bool) : D.isBv (.tuple a) b = false := id rfl
@[simp] theorem isBv_none (b : Bool) : D.isBv .none b = false := id rfl
theorem ix_I {ds : List D} {i : Int} {d : D} (h0 : 0 ≤ i) (h : ds[i.toNat]? = some d) : D.ix (.list ds) (.int i) = some d := by
  have := ix_list h
  rwa [Int.toNat_of_nonneg h0] at this
theorem ixt_I {ds : List D} {i : Int} {d : D} (h0 : 0 ≤ i) (h : ds[i.toNat]? = some d) : D.ix (.tuple ds) (.int i) = some d := by
  have := ix_tuple h
  rwa [Int.toNat_of_nonneg h0] at this
theorem rangeD_len (lo : Int) (n : Nat) : (rangeD lo n).length = n := by simp [rangeD]
theorem rangeD_get {lo : Int} {n i : Nat} {d : D} (h : (rangeD lo n)[i]? = some d) : i < n ∧ d = .int (lo + i) := by
  have hlt := (List.getElem?_eq_some_iff.mp h).1
  rw [rangeD_len] at hlt
  refine ⟨hlt, ?_⟩
  simp only [rangeD, List.getElem?_map, List.getElem?_range hlt, Option.map_some, Option.some.injEq] at h
  exact h.symm
/-- a loop over a range, by what holds ahead of each turn -/
theorem for_rng {g : GD} {t : SD} {lo : Int} {n : Nat} {e : Env} (I : Nat → Env → Prop) (h0 : I 0 e) (step : ∀ (i : Nat) (e : Env), i < n → I i e → ∃ e2, ((g (.int (lo + i)) e).bind t = some (.nx e2) ∨ (g (.int (lo + i)) e).bind t = some (.ct e2)) ∧ I (i + 1) e2) :
    ∃ e', dForGo g t (rangeD lo n) e = some (.nx e') ∧ I n e' := by
  have := for_inv (g := g) (t := t) (ds := rangeD lo n) I (fun i d e hd h => by
    obtain ⟨hi, rfl⟩ := rangeD_get hd
    obtain ⟨e2, h1, h2⟩ := step i e hi h
    cases hg : g (.int (lo + i)) e with
    | none => rw [hg] at h1; simp at h1
    | some e1 => rw [hg] at h1; exact ⟨e1, e2, rfl, h1, h2⟩) h0
  rwa [rangeD_len] at this
/-- a loop over a list, by what holds ahead of each turn -/
theorem for_lst {g : GD} {t : SD} {ds : List D} {e : Env} (I : Nat → Env → Prop) (h0 : I 0 e) (step : ∀ (i : Nat) (d : D) (e : Env), ds[i]? = some d → I i e → ∃ e2, ((g d e).bind t = some (.nx e2) ∨ (g d e).bind t = some (.ct e2)) ∧ I (i + 1) e2) :
    ∃ e', dForGo g t ds e = some (.nx e') ∧ I ds.length e' :=
  for_inv (g := g) (t := t) (ds := ds) I (fun i d e hd h => by
    obtain ⟨e2, h1, h2⟩ := step i d e hd h
    cases hg : g d e with
    | none => rw [hg] at h1; simp at h1
    | some e1 => rw [hg] at h1; exact ⟨e1, e2, rfl, h1, h2⟩) h0
/-- cells that a plain store may take -/
def Cell.free : Cell → Bool
  | .io _ => false
  | _ => true
@[simp] theorem setCK_free (e : Env) (i : Nat) (c : Cell) {c0 : Cell} (h : c0.free = true) : setCK e i c (some c0) = some (e.set i c) := by cases c0 <;> first | rfl | cases h
@[simp] theorem free_dat (d : D) : Cell.free (.dat d) = true := id rfl
@[simp] theorem free_own (d : D) : Cell.free (.own d) = true := id rfl
@[simp] theorem free_un : Cell.free .un = true := id rfl
theorem ixN_nat {n i : Nat} (h : i < n) : L2.ixN n (i : Int) = some i := by
  unfold L2.ixN; rw [if_pos (by omega), if_pos (by omega)]; simp
theorem setIx_I {ds : List D} {i : Nat} {v : D} (h : i < ds.length) : D.setIx (.list ds) (.int i) v = some (.list (ds.set i v)) := by
  simp [D.setIx, ixN_nat h]
theorem ix_str {x : Str} {i : Nat} {c : Nat} (hl : x.length ≤ 16777216) (h : x.cps.toList[i]? = some c) : D.ix (.str x) (.int i) = some (.str ⟨#[c]⟩) := by
  simp [D.ix, hl, L2.atI_nat h]
/-- a loop that may stop: I ahead of each turn, S where it stops -/
theorem for_gen {g : GD} {t : SD} {ds : List D} {e : Env} (I : Nat → Env → Prop) (S : Nat → Out → Prop) (h0 : I 0 e)
    (step : ∀ (i : Nat) (d : D) (e : Env), ds[i]? = some d → I i e → ∃ o, (g d e).bind t = some o ∧ ((∃ e2, (o = .nx e2 ∨ o = .ct e2) ∧ I (i + 1) e2) ∨ (∃ e2, o = .bk e2 ∧ S i (.nx e2)) ∨ (∃ r e2, o = .rt r e2 ∧ S i (.rt r e2)))) :
    ∃ o, dForGo g t ds e = some o ∧ ((∃ e2, o = .nx e2 ∧ I ds.length e2) ∨ ∃ i, i < ds.length ∧ S i o) := by
  have key : ∀ (n i : Nat) (e : Env), n + i = ds.length → I i e → ∃ o, dForGo g t (ds.drop i) e = some o ∧ ((∃ e2, o = .nx e2 ∧ I ds.length e2) ∨ ∃ i, i < ds.length ∧ S i o) := by
    intro n
    induction n with
    | zero =>
      intro i e hi h
      have : i = ds.length := by omega
      subst this
      rw [List.drop_length]
      exact ⟨_, rfl, .inl ⟨e, rfl, h⟩⟩
    | succ n ih =>
      intro i e hi h
      have hlt : i < ds.length := by omega
      obtain ⟨o, h1, h2⟩ := step i _ e (List.getElem?_eq_getElem hlt) h
      rw [List.drop_eq_getElem_cons hlt, dForGo_cons]
      cases hg : g ds[i] e with
      | none => rw [hg] at h1; simp at h1
      | some e1 =>
        rw [hg] at h1
        simp only [Option.bind_some] at h1
        rcases h2 with ⟨e2, h2, h3⟩ | ⟨e2, h2, h3⟩ | ⟨r, e2, h2, h3⟩
        · obtain ⟨o', q1, q2⟩ := ih (i + 1) e2 (by omega) h3
          rcases h2 with rfl | rfl
          · exact ⟨o', by simp [h1, q1], q2⟩
          · exact ⟨o', by simp [h1, q1], q2⟩
        · subst h2; exact ⟨_, by simp only [Option.bind_some, h1, forK_bk], .inr ⟨i, hlt, h3⟩⟩
        · subst h2; exact ⟨_, by simp only [Option.bind_some, h1, forK_rt], .inr ⟨i, hlt, h3⟩⟩
  have := key ds.length 0 e (by omega) h0
  rwa [List.drop_zero] at this
theorem for_genR {g : GD} {t : SD} {lo : Int} {n : Nat} {e : Env} (I : Nat → Env → Prop) (S : Nat → Out → Prop) (h0 : I 0 e)
    (step : ∀ (i : Nat) (e : Env), i < n → I i e → ∃ o, (g (.int (lo + i)) e).bind t = some o ∧ ((∃ e2, (o = .nx e2 ∨ o = .ct e2) ∧ I (i + 1) e2) ∨ (∃ e2, o = .bk e2 ∧ S i (.nx e2)) ∨ (∃ r e2, o = .rt r e2 ∧ S i (.rt r e2)))) :
    ∃ o, dForGo g t (rangeD lo n) e = some o ∧ ((∃ e2, o = .nx e2 ∧ I n e2) ∨ ∃ i, i < n ∧ S i o) := by
  have := for_gen (g := g) (t := t) (ds := rangeD lo n) I S h0 (fun i d e hd h => by
    obtain ⟨hi, rfl⟩ := rangeD_get hd
    exact step i e hi h)
  rwa [rangeD_len] at this
/-! own returns, comprehensions, slices, methods -/
@[simp] theorem dRetO_ (g : ND) (e : Env) : dRetO g e = (g e).map fun p => .ro p.1 p.2 := id rfl
def retVK (i : Nat) (e : Env) : Option Cell → Option Out
  | some (.own d) => some (.ro d (e.set i .un))
  | _ => none
@[simp] theorem retVK_ (i : Nat) (e : Env) (d : D) : retVK i e (some (.own d)) = some (.ro d (e.set i .un)) := id rfl
@[simp] theorem dRetV_ (i : Nat) (e : Env) : dRetV i e = retVK i e e[i]? := by
  unfold dRetV retVK; rfl
def endO (ms : List Bool) : Out → Option (D × List D)
  | .ro d e' => (outsE e' 0 ms).map fun os => (d, os)
  | _ => none
@[simp] theorem endO_ro (ms : List Bool) (d : D) (e : Env) : endO ms (.ro d e) = (outsE e 0 ms).map fun os => (d, os) := id rfl
@[simp] theorem dFnO_ (n : Nat) (ms : List Bool) (body : SD) (ds : List D) : dFnO n ms body ds = (initE ms ds).bind fun e => (body (e ++ List.replicate (n - ms.length) .un)).bind (endO ms) := by
  unfold dFnO; congr 1
@[simp] theorem dCallO_ (ms : List Bool) (f : List D → Option (D × List D)) (fa : AD) (e : Env) : dCallO ms f fa e = (fa e).bind fun p => (argsT ms p.1 p.2).bind fun a => if (slotsT ms p.1).Nodup then
  (f a.1).bind fun z => (putT (slotsT ms p.1) z.2 a.2).map fun e' => (z.1, e') else none := id rfl
@[simp] theorem dLc_ (fi : ID) (g : GD) (c : TD) (el : XD) (vs : List Nat) (e : Env) : dLc fi g c el vs e = (fi e).bind fun p => if p.1.length ≤ 16777216 then
  (wipeC vs p.2).bind fun e1 => (dLcGo g c el vs p.1 e1).map fun r => (.list r.1, unwE p.2 vs r.2) else none := id rfl
@[simp] theorem dLcGo_nil (g : GD) (c : TD) (el : XD) (vs : List Nat) (e : Env) : dLcGo g c el vs [] e = some ([], e) := id rfl
theorem dLcGo_cons (g : GD) (c : TD) (el : XD) (vs : List Nat) (d : D) (ds : List D) (e : Env) : dLcGo g c el vs (d :: ds) e = (g d e).bind fun e1 => (c e1).bind fun p => if p.1 = true then
      (el p.2).bind fun q => (q.1.take q.2).bind fun y => (wipeC vs y.2).bind fun e5 => (dLcGo g c el vs ds e5).map fun r => (y.1 :: r.1, r.2)
    else (wipeC vs p.2).bind fun e5 => dLcGo g c el vs ds e5 := id rfl
@[simp] theorem dLc2_ (fi : ID) (g : GD) (c : TD) (fi1 : ID) (g1 : GD) (c1 : TD) (el : XD) (vs vs1 : List Nat) (e : Env) : dLc2 fi g c fi1 g1 c1 el vs vs1 e = (fi e).bind fun p =>
  (wipeC vs p.2).bind fun e1 => (dLc2Go g c fi1 g1 c1 el vs vs1 p.1 e1).bind fun r => if r.1.length ≤ 16777216 then some (.list r.1, unwE p.2 vs r.2) else none := id rfl
def wipeK (e : Env) (v : Nat) : Option Cell → Option Env
  | some (.own _) => none
  | some (.io _) => none
  | some _ => some (e.set v .un)
  | none => none
@[simp] theorem wipeK_un (e : Env) (v : Nat) : wipeK e v (some .un) = some (e.set v .un) := id rfl
@[simp] theorem wipeK_dat (e : Env) (v : Nat) (d : D) : wipeK e v (some (.dat d)) = some (e.set v .un) := id rfl
@[simp] theorem wipeC_nil (e : Env) : wipeC [] e = some e := id rfl
@[simp] theorem wipeC_cons (v : Nat) (vs : List Nat) (e : Env) : wipeC (v :: vs) e = (wipeC vs e).bind fun e' => wipeK e' v e'[v]? := by
  rw [wipeC]; congr 1
def unwK (e : Env) (v : Nat) : Option Cell → Env
  | some c => e.set v c
  | none => e
@[simp] theorem unwK_ (e : Env) (v : Nat) (c : Cell) : unwK e v (some c) = e.set v c := id rfl
@[simp] theorem unwE_nil (e0 e : Env) : unwE e0 [] e = e := id rfl
@[simp] theorem unwE_cons (e0 : Env) (v : Nat) (vs : List Nat) (e : Env) : unwE e0 (v :: vs) e = unwK (unwE e0 vs e) v e0[v]? := by
  rw [unwE]; cases e0[v]? <;> rfl
@[simp] theorem dP1_ (a : XD) (e : Env) : dP1 a e = (a e).bind fun p => (match p.1 with | .dat (.int i) => some (some i, p.2) | _ => none) := by
  unfold dP1; rfl
@[simp] theorem dSl_ (g : D → Option Int → Option Int → Option D) (a : XD) (l h : Env → Option (Option Int × Env)) (e : Env) : dSl g a l h e = (a e).bind fun p => (l p.2).bind fun q => (h q.2).bind fun r => (p.1.get r.2).bind fun x => (g x q.1 r.1).map fun z => (.dat z, r.2) := id rfl
@[simp] theorem dSlN_ (g : D → Option Int → Option Int → Option D) (a : XD) (l h : Env → Option (Option Int × Env)) (e : Env) : dSlN g a l h e = (a e).bind fun p => (l p.2).bind fun q => (h q.2).bind fun r => (p.1.get r.2).bind fun x => (g x q.1 r.1).map fun z => (z, r.2) := id rfl
def metK (kd : D → Bool) (g : D → List D → Option D) (fa : AD) (r : R) (e : Env) (x0 : D) : Option (R × Env) := if kd x0 = true then
  (fa e).bind fun q => (r.get q.2).bind fun x => (gets q.2 q.1).bind fun xs => (g x xs).map fun z => (.dat z, q.2) else none
@[simp] theorem metK_ {kd : D → Bool} {g : D → List D → Option D} {fa : AD} {r : R} {e : Env} {x0 : D} (h : kd x0 = true) : metK kd g fa r e x0 = (fa e).bind fun q => (r.get q.2).bind fun x => (gets q.2 q.1).bind fun xs => (g x xs).map fun z => (.dat z, q.2) := if_pos h
@[simp] theorem dMet_ (kd : D → Bool) (g : D → List D → Option D) (fo : XD) (fa : AD) (e : Env) : dMet kd g fo fa e = (fo e).bind fun p => (p.1.get p.2).bind (metK kd g fa p.1 p.2) := id rfl
@[simp] theorem isStr_str (x : Str) : isStr (.str x) = true := id rfl
@[simp] theorem isLst_list (x : List D) : isLst (.list x) = true := id rfl
/-- a comprehension over a range, each turn alone -/
theorem lc_map {el : XD} {i : Nat} {e : Env} {lo : Int} (r : Nat → D) : ∀ (n k : Nat), (∀ j, k ≤ j → j < k + n → (gdName i (.int (lo + j)) e).bind (fun e1 => (el e1).bind fun q => (q.1.take q.2).bind fun y => (wipeC [i] y.2).map fun e5 => (y.1, e5)) = some (r j, e)) → dLcGo (gdName i) dYes el [i] (rangeD (lo + k) n) e = some ((List.range' k n).map r, e)
  | 0, k, _ => rfl
  | n + 1, k, h => by
    have h0 := h k (Nat.le_refl _) (by omega)
    rw [range_s, dLcGo_cons]
    cases hg : gdName i (.int (lo + k)) e with
    | none => rw [hg] at h0; simp at h0
    | some e1 =>
      rw [hg] at h0
      simp only [Option.bind_some, dYes_, if_true] at h0 ⊢
      cases hq : el e1 with
      | none => rw [hq] at h0; simp at h0
      | some q =>
        rw [hq] at h0
        simp only [Option.bind_some] at h0 ⊢
        cases hy : q.1.take q.2 with
        | none => rw [hy] at h0; simp at h0
        | some y =>
          rw [hy] at h0
          simp only [Option.bind_some] at h0 ⊢
          cases hw : wipeC [i] y.2 with
          | none => rw [hw] at h0; simp at h0
          | some e5 =>
            rw [hw] at h0
            simp only [Option.map_some, Option.some.injEq, Prod.mk.injEq] at h0
            obtain ⟨h1, h2⟩ := h0
            subst h2
            have ih := lc_map (el := el) (i := i) (e := e5) (lo := lo) r n (k + 1) (fun j h3 h4 => h j (by omega) (by omega))
            rw [show lo + ((k + 1 : Nat) : Int) = lo + k + 1 by omega] at ih
            simp only [Option.bind_some, ih, Option.map_some, List.range'_succ, List.map_cons, h1]
end HD

/-! the helpers that many laws share -/
namespace CM
open PySem HD
abbrev IL (ds : List Int) : D := .list (ds.map .int)
theorem get_map {ds : List Int} {i : Nat} {d : Int} (h : ds[i]? = some d) : (ds.map PyData.int)[i]? = some (.int d) := by
  rw [List.getElem?_map, h]; rfl
@[simp] theorem len_scr (ns : List Int) : D.len [scr ns] = some (.int ns.length) := by simp [scr, D.len]
theorem ix_scr {ns : List Int} {i : Int} {d : Int} (h0 : 0 ≤ i) (h : ns[i.toNat]? = some d) : D.ix (scr ns) (.int i) = some (.int d) := by
  have := ix_list (get_map h)
  rw [Int.toNat_of_nonneg h0] at this
  exact this
theorem cell_eq (ns : List Int) (k : Int) (h : 0 ≤ k) : ∃ c, f__law_cell [scr ns, .int k] = some (.int c, []) := by
  by_cases hk : k < ns.length
  · obtain ⟨d, hd⟩ : ∃ d, ns[k.toNat]? = some d := ⟨_, List.getElem?_eq_getElem (by omega)⟩
    exact ⟨d, by simp [f__law_cell, hk, ix_scr h hd]⟩
  · exact ⟨0, by simp [f__law_cell, hk]⟩
/-! digits -/
theorem dig2 (v : Cell) (a b c : Cell) (k : Cell) (ds : List Int) (x : Int) (t : Int) (h : ds.length < 16777216) (s7 : Cell) : ∃ ds' x', b__law_digits_2 [a, b, c, .own (IL ds), k, .dat (.int x), .dat (.int t), s7] = some (.nx [a, b, c, .own (IL ds'), k, .dat (.int x'), .dat (.int t), s7]) ∧ ds'.length ≤ ds.length + 1 ∧ ds.length ≤ ds'.length ∧ (0 < x → ds.length < ds'.length) := by
  by_cases hx : 0 < x
  · exact ⟨ds ++ [x % 1000], x / 1000, by simp [b__law_digits_2, hx, mod_int, fdiv_int, append_list, h], by simp, by simp, by simp⟩
  · exact ⟨ds, x, by simp [b__law_digits_2, hx], by simp, by simp, fun z => (hx z).elim⟩
theorem dig3 (a b c k s5 : Cell) (ds : List Int) (x : Int) (t : Int) (h : ds.length < 16777216) : ∃ ds' x', b__law_digits_3 [a, b, c, .own (IL ds), k, s5, .dat (.int t), .dat (.int x)] = some (.nx [a, b, c, .own (IL ds'), k, s5, .dat (.int t), .dat (.int x')]) ∧ ds'.length = ds.length + 1 := by
  have m1 : D.mul (.int x) (.int 16807) = some (.int (x * 16807)) := mul_int (by omega)
  have m2 : D.mul (.int 7) (.int t) = some (.int (7 * t)) := mul_int (by omega)
  exact ⟨ds ++ [(x * 16807 + 7 * t + 1) % 2147483647 / 997 % 1000], (x * 16807 + 7 * t + 1) % 2147483647, by simp [b__law_digits_3, m1, m2, mod_int, fdiv_int, append_list, h], by simp⟩

theorem dig1 (ns : List Int) (a2 a3 k5 k6 k7 k4 : Cell) (ds : List Int) (k : Int) (hk : 0 ≤ k ∧ k < 1000000) (h : ds.length < 16000000) (f5 : k5.free = true) (f6 : k6.free = true) (f7 : k7.free = true) :
    ∃ ds' c5 c6 c7, b__law_digits_1 [.dat (scr ns), a2, a3, .own (IL ds), .dat (.int k), k5, k6, k7] = some (.nx [.dat (scr ns), a2, a3, .own (IL ds'), .dat (.int k), c5, c6, c7]) ∧ ds'.length ≤ ds.length + 60 ∧ ds.length < ds'.length ∧ c5.free = true ∧ c6.free = true ∧ c7.free = true := by
  obtain ⟨c, hc⟩ := cell_eq ns k hk.1
  have key : ∀ c : Int, ∃ ds' c5 c6 c7, (dIfS (dB (dBin D.ge (dVar 5) (dBin D.pow (dC (.int 10)) (dC (.int 18))))) (dFor (dIA range1 (dA1 (dC (.int 60)) dA0)) (gdName 6) b__law_digits_2) (dSeq (dSet 7 (dBin D.mod (dCB D.int1 (dA1 (dBin D.add (dBin D.add (dBin D.mul (dVar 5) (dC (.int 48271))) (dBin D.mul (dVar 4) (dC (.int 69621)))) (dC (.int 11))) dA0)) (dC (.int 2147483647))))
  (dFor (dIA range1 (dA1 (dC (.int 12)) dA0)) (gdName 6) b__law_digits_3))) [.dat (scr ns), a2, a3, .own (IL ds), .dat (.int k), .dat (.int c), k6, k7] = some (.nx [.dat (scr ns), a2, a3, .own (IL ds'), .dat (.int k), c5, c6, c7]) ∧ ds'.length ≤ ds.length + 60 ∧ ds.length < ds'.length ∧ c5.free = true ∧ c6.free = true ∧ c7.free = true := by
    intro c
    have hp : D.pow (.int 10) (.int 18) = some (.int 1000000000000000000) := by simp [D.pow]
    by_cases hb : (1000000000000000000 : Int) ≤ c
    · obtain ⟨e', h1, h2⟩ := for_rng (g := gdName 6) (t := b__law_digits_2) (lo := 0) (n := 60) (e := [.dat (scr ns), a2, a3, .own (IL ds), .dat (.int k), .dat (.int c), k6, k7]) (fun i e => ∃ ds' x c6, e = [.dat (scr ns), a2, a3, .own (IL ds'), .dat (.int k), .dat (.int x), c6, k7] ∧ ds'.length ≤ ds.length + i ∧ c6.free = true ∧ (i = 0 → x = c) ∧ ds.length ≤ ds'.length ∧ (0 < i → ds.length < ds'.length)) ⟨ds, c, k6, rfl, by omega, f6, fun _ => rfl, by omega, by omega⟩ (by
        rintro i e hi ⟨d1, x, c6, rfl, hl, hf, g1, g2, g3⟩
        obtain ⟨d2, x2, h3, h4, h5, h6⟩ := dig2 (.un) (.dat (scr ns)) a2 a3 (.dat (.int k)) d1 x (0 + i) (by omega) k7
        exact ⟨_, .inl (by simpa [hf] using h3), d2, x2, _, rfl, by omega, rfl, by omega, by omega, fun _ => by
          rcases Nat.eq_zero_or_pos i with z | z
          · have := g1 z; exact Nat.lt_of_le_of_lt g2 (h6 (by omega))
          · have := g3 z; omega⟩)
      obtain ⟨d1, x, c6, rfl, hl, hf, g1, g2, g3⟩ := h2
      exact ⟨d1, .dat (.int x), c6, k7, by simp [hp, hb, r1, h1], hl, g3 (by omega), rfl, hf, f7⟩
    · have m1 : D.mul (.int c) (.int 48271) = some (.int (c * 48271)) := mul_int (by omega)
      have m2 : D.mul (.int k) (.int 69621) = some (.int (k * 69621)) := mul_int (by omega)
      obtain ⟨e', h1, h2⟩ := for_rng (g := gdName 6) (t := b__law_digits_3) (lo := 0) (n := 12) (e := [.dat (scr ns), a2, a3, .own (IL ds), .dat (.int k), .dat (.int c), k6, .dat (.int ((c * 48271 + k * 69621 + 11) % 2147483647))]) (fun i e => ∃ ds' x c6, e = [.dat (scr ns), a2, a3, .own (IL ds'), .dat (.int k), .dat (.int c), c6, .dat (.int x)] ∧ ds'.length = ds.length + i ∧ c6.free = true) ⟨ds, _, k6, rfl, by omega, f6⟩ (by
        rintro i e hi ⟨d1, x, c6, rfl, hl, hf⟩
        obtain ⟨d2, x2, h3, h4⟩ := dig3 (.dat (scr ns)) a2 a3 (.dat (.int k)) (.dat (.int c)) d1 x (0 + i) (by omega)
        exact ⟨_, .inl (by simpa [hf] using h3), d2, x2, _, rfl, by omega, rfl⟩)
      obtain ⟨d1, x, c6, rfl, hl, hf⟩ := h2
      exact ⟨d1, .dat (.int c), c6, .dat (.int x), by simp [hp, hb, r1, m1, m2, mod_int, f7, h1], by omega, by omega, rfl, hf, rfl⟩
  by_cases hn : c < 0
  · have m1 : D.mul (.int 2) (.int c) = some (.int (2 * c)) := mul_int (by omega)
    obtain ⟨d1, c5, c6, c7, h1, h2, h2', h3, h4, h5⟩ := key (1 - 2 * c)
    exact ⟨d1, c5, c6, c7, by rw [b__law_digits_1, ← h1]; simp [hc, hn, m1, f5], h2, h2', h3, h4, h5⟩
  · obtain ⟨d1, c5, c6, c7, h1, h2, h2', h3, h4, h5⟩ := key c
    exact ⟨d1, c5, c6, c7, by rw [b__law_digits_1, ← h1]; simp [hc, hn, f5], h2, h2', h3, h4, h5⟩

theorem digits_eq (ns : List Int) (a b : Int) (h0 : 0 ≤ a) (h1 : a < b) (h2 : b ≤ 1000) : ∃ ds : List Int, f__law_digits [scr ns, .int a, .int b] = some (IL ds, []) ∧ ds ≠ [] ∧ ds.length ≤ 60000 := by
  obtain ⟨e', g1, g2⟩ := for_rng (g := gdName 4) (t := b__law_digits_1) (lo := a) (n := (b - a).toNat) (e := [.dat (scr ns), .dat (.int a), .dat (.int b), .own (.list []), .un, .un, .un, .un]) (fun i e => ∃ ds c4 c5 c6 c7, e = [.dat (scr ns), .dat (.int a), .dat (.int b), .own (IL ds), c4, c5, c6, c7] ∧ ds.length ≤ 60 * i ∧ c4.free = true ∧ c5.free = true ∧ c6.free = true ∧ c7.free = true ∧ (0 < i → 0 < ds.length)) ⟨[], .un, .un, .un, .un, rfl, by simp, rfl, rfl, rfl, rfl, by omega⟩ (by
    rintro i e hi ⟨ds, c4, c5, c6, c7, rfl, hl, f4, f5, f6, f7, hp⟩
    obtain ⟨d1, k5, k6, k7, q1, q2, q3, q4, q5, q6⟩ := dig1 ns (.dat (.int a)) (.dat (.int b)) c5 c6 c7 .un ds (a + i) (by omega) (by omega) f5 f6 f7
    exact ⟨_, .inl (by simpa [f4] using q1), d1, _, k5, k6, k7, rfl, by omega, rfl, q4, q5, q6, by omega⟩)
  obtain ⟨ds, c4, c5, c6, c7, rfl, hl, f4, f5, f6, f7, hp⟩ := g2
  refine ⟨ds, ?_, ?_, by omega⟩
  · simp [f__law_digits, r2 (a := a) (n := b) (by omega) (by omega) (by omega) (by omega), g1]
  · intro z; subst z; have := hp (by omega); simp at this
/-! draws -/
def bx (ds : List Int) (k : Nat) : D := .list [IL ds, .int k]
def dr (ds : List Int) (k : Nat) (m : Int) : Int := (ds.getD k ((k + 1) * 7 + 3)) % m
theorem dr_lt (ds : List Int) (k : Nat) {m : Int} (h : 0 < m) : 0 ≤ dr ds k m ∧ dr ds k m < m := ⟨Int.emod_nonneg _ (by omega), Int.emod_lt_of_pos _ h⟩
theorem draw_eq (ds : List Int) (k : Nat) (m : Int) (h : 0 < m) : f__law_draw [bx ds k, .int m] = some (.int (dr ds k m), [bx ds (k + 1)]) := by
  have e1 : ∀ x : D, D.ix (.list [x, .int (k : Int)]) (.int 1) = some (.int k) := fun x => ix_list (i := 1) rfl
  have e2 : ∀ x : D, D.ix (.list [x, .int ((k : Int) + 1)]) (.int 1) = some (.int (k + 1)) := fun x => ix_list (i := 1) rfl
  have e3 : ∀ x y : D, D.ix (.list [x, y]) (.int 0) = some x := fun x y => ix_list (i := 0) rfl
  have e4 : ∀ x y v : D, D.setIx (.list [x, y]) (.int 1) v = some (.list [x, v]) := fun x y v => setIx_I (i := 1) (by simp)
  have m1 : D.mul (.int (k + 1)) (.int 7) = some (.int ((k + 1) * 7)) := mul_int (by omega)
  by_cases hk : ds.length ≤ k
  · have : (ds.length : Int) < k + 1 := by omega
    have hd : dr ds k m = ((k + 1) * 7 + 3) % m := by unfold dr; simp [List.getD, List.getElem?_eq_none hk]
    simp [f__law_draw, bx, e1, e2, e3, e4, this, m1, mod_int h, hd]
  · have : ¬ (ds.length : Int) < k + 1 := by omega
    have h5 : k < ds.length := by omega
    have hd : dr ds k m = ds[k] % m := by unfold dr; simp [List.getD, List.getElem?_eq_getElem h5]
    have hx : D.ix (IL ds) (.int (k : Int)) = some (.int ds[k]) := ix_list (get_map (List.getElem?_eq_getElem h5))
    simp [f__law_draw, bx, e1, e2, e3, e4, this, m1, mod_int h, hd, hx, Int.add_sub_cancel]
theorem pick_eq (ds : List Int) (k : Nat) (row : List D) (d : D) (h : row[(dr ds k 1000 % row.length).toNat]? = some d) : f__law_pick [bx ds k, .list row] = some (d, [bx ds (k + 1)]) := by
  have hr : 0 < row.length := by have := (List.getElem?_eq_some_iff.mp h).1; omega
  have hr' : (0 : Int) < row.length := by omega
  have h1 := ix_I (Int.emod_nonneg _ (by omega)) h
  simp [f__law_pick, draw_eq, mod_int hr', h1]
theorem pick_mem (ds : List Int) (k : Nat) {row : List D} (h : row ≠ []) : ∃ d, d ∈ row ∧ f__law_pick [bx ds k, .list row] = some (d, [bx ds (k + 1)]) := by
  have hr : 0 < row.length := List.length_pos_iff.mpr h
  have h1 : 0 ≤ dr ds k 1000 % row.length := Int.emod_nonneg _ (by omega)
  have h2 : dr ds k 1000 % row.length < row.length := Int.emod_lt_of_pos _ (by omega)
  have h3 : (dr ds k 1000 % row.length).toNat < row.length := by omega
  exact ⟨row[(dr ds k 1000 % row.length).toNat], List.getElem_mem h3, pick_eq ds k row _ (List.getElem?_eq_getElem h3)⟩
/-! _law_same on alike data -/
/-- data that _law_same can go through, with n calls in one another -/
def okD : Nat → D → Bool
  | 0, _ => false
  | _ + 1, .none => true
  | _ + 1, .bool _ => true
  | _ + 1, .int i => decide (i.natAbs.log2 < 1920)
  | _ + 1, .str x => decide ((reprText x).length ≤ 16777216)
  | n + 1, .list ds => decide (ds.length ≤ 16777216) && ds.all (okD n)
  | n + 1, .tuple ds => decide (ds.length ≤ 16777216) && ds.all (okD n)
  | _, _ => false
theorem same_seq {n : Nat} {ds : List D} {x : D} (hx : ∀ (i : Nat) (d : D), ds[i]? = some d → D.ix x (.int i) = some d) (hl : ds.length ≤ 16777216) (hr : ∀ d ∈ ds, r__law_same n [d, d] = some (.bool true, [])) :
    ∃ c, dForGo (gdName 2) (dIfS (dNot (dTr (dCall [false, false] (r__law_same n) (dA1 (dBin D.ix (dVar 0) (dVar 2)) (dA1 (dBin D.ix (dVar 1) (dVar 2)) dA0))))) (dRet (dC (.bool false))) dNx) (rangeD 0 ds.length) [.dat x, .dat x, .un] = some (.nx [.dat x, .dat x, c]) := by
  obtain ⟨e', h1, c, h2, _⟩ := for_rng (g := gdName 2) (t := (dIfS (dNot (dTr (dCall [false, false] (r__law_same n) (dA1 (dBin D.ix (dVar 0) (dVar 2)) (dA1 (dBin D.ix (dVar 1) (dVar 2)) dA0))))) (dRet (dC (.bool false))) dNx)) (lo := 0) (n := ds.length) (e := [.dat x, .dat x, .un]) (fun _ e => ∃ c, e = [.dat x, .dat x, c] ∧ c.free = true) ⟨_, rfl, rfl⟩ (by
    rintro i e hi ⟨c, rfl, hc⟩
    have hd := List.getElem?_eq_getElem hi
    have h1 := hx i _ hd
    have h2 := hr _ (List.getElem_mem hi)
    refine ⟨[.dat x, .dat x, .dat (.int i)], .inl ?_, _, rfl, rfl⟩
    simp [hc, h1, h2])
  exact ⟨c, by rw [h1, h2]⟩
@[simp] theorem isi_list_str (ds : List D) : D.isi .str (.list ds) = some (.bool false) := id rfl
@[simp] theorem isi_list_int (ds : List D) : D.isi .int (.list ds) = some (.bool false) := id rfl
@[simp] theorem isi_list_tuple (ds : List D) : D.isi .tuple (.list ds) = some (.bool false) := id rfl
@[simp] theorem isi_list_list (ds : List D) : D.isi .list (.list ds) = some (.bool true) := id rfl
@[simp] theorem isi_tuple_str (ds : List D) : D.isi .str (.tuple ds) = some (.bool false) := id rfl
@[simp] theorem isi_tuple_int (ds : List D) : D.isi .int (.tuple ds) = some (.bool false) := id rfl
@[simp] theorem isi_tuple_tuple (ds : List D) : D.isi .tuple (.tuple ds) = some (.bool true) := id rfl
@[simp] theorem isi_tuple_list (ds : List D) : D.isi .list (.tuple ds) = some (.bool false) := id rfl
@[simp] theorem isi_int_str (ds : Int) : D.isi .str (.int ds) = some (.bool false) := id rfl
@[simp] theorem isi_int_int (ds : Int) : D.isi .int (.int ds) = some (.bool true) := id rfl
@[simp] theorem isi_int_bool (ds : Int) : D.isi .bool (.int ds) = some (.bool false) := id rfl
@[simp] theorem isi_str_str (ds : Str) : D.isi .str (.str ds) = some (.bool true) := id rfl
@[simp] theorem isi_none_str : D.isi .str .none = some (.bool false) := id rfl
theorem same_r : ∀ (n : Nat) (d : D), okD n d = true → r__law_same n [d, d] = some (.bool true, [])
  | 0, d, h => by simp [okD] at h
  | n + 1, .none, h => by simp [r__law_same]
  | n + 1, .bool b, h => by cases b <;> simp [r__law_same]
  | n + 1, .int i, h => by
    have hl : i.natAbs.log2 < 1920 := by simpa [okD] using h
    simp [r__law_same, D.repr, hl]
  | n + 1, .str i, h => by
    have hl : (reprText i).length ≤ 16777216 := by simpa [okD] using h
    simp [r__law_same, D.repr, hl]
  | n + 1, .list ds, h => by
    simp only [okD, Bool.and_eq_true, decide_eq_true_eq, List.all_eq_true] at h
    obtain ⟨c, h1⟩ := same_seq (n := n) (x := .list ds) (ds := ds) (fun i d hd => ix_list hd) h.1 (fun d hd => same_r n d (h.2 d hd))
    have hr : range1 [.int ds.length] = some (rangeD 0 ds.length) := by rw [r1 (by omega) (by omega)]; simp
    simp [r__law_same, hr, h1]
  | n + 1, .tuple ds, h => by
    simp only [okD, Bool.and_eq_true, decide_eq_true_eq, List.all_eq_true] at h
    obtain ⟨c, h1⟩ := same_seq (n := n) (x := .tuple ds) (ds := ds) (fun i d hd => ix_tuple hd) h.1 (fun d hd => same_r n d (h.2 d hd))
    have hr : range1 [.int ds.length] = some (rangeD 0 ds.length) := by rw [r1 (by omega) (by omega)]; simp
    simp [r__law_same, hr, h1]
  | n + 1, .dict ds, h => by simp [okD] at h
theorem same_eq (d : D) (h : okD 8 d = true) : f__law_same [d, d] = some (.bool true, []) := same_r 8 d h
theorem log2_lt {i : Int} (h : i.natAbs < 1000000000000000000000) : i.natAbs.log2 < 1920 := by
  by_cases z : i.natAbs = 0
  · rw [z]; decide
  · rw [Nat.log2_lt z]
    exact Nat.lt_of_lt_of_le h (by decide +kernel)
theorem same_int (i : Int) (h : i.natAbs < 1000000000000000000000) : f__law_same [.int i, .int i] = some (.bool true, []) := same_eq _ (by simp [okD, log2_lt h])
@[simp] theorem same_none : f__law_same [.none, .none] = some (.bool true, []) := same_eq _ rfl
@[simp] theorem same_bool (b : Bool) : f__law_same [.bool b, .bool b] = some (.bool true, []) := same_eq _ rfl
/-! the greatest common measure -/
theorem gcd_rec' (a b : Nat) : Nat.gcd a b = Nat.gcd b (a % b) := by
  rw [Nat.gcd_comm a b, Nat.gcd_rec b a, Nat.gcd_comm]
theorem measure_eq (a b : Nat) (hb : b < 4000) : f__law_measure [.int a, .int b] = some (.int (Nat.gcd a b), []) := by
  obtain ⟨o, h1, h2⟩ := for_genR (g := gdName 2) (t := b__law_measure_1) (lo := 0) (n := 4000) (e := [.dat (.int a), .dat (.int b), .un])
    (fun i e => ∃ (x y : Nat) (c : Cell), e = [.dat (.int x), .dat (.int y), c] ∧ c.free = true ∧ Nat.gcd x y = Nat.gcd a b ∧ y + i ≤ b)
    (fun i o => ∃ c c', o = .nx [.dat (.int (Nat.gcd a b)), c', c]) ⟨a, b, .un, rfl, rfl, rfl, by omega⟩ (by
    rintro i e hi ⟨x, y, c, rfl, hc, hg, hy⟩
    by_cases z : y = 0
    · subst z
      refine ⟨.bk [.dat (.int x), .dat (.int 0), .dat (.int (0 + i))], ?_, .inr (.inl ⟨_, rfl, _, _, by rw [← hg, Nat.gcd_zero_right]⟩)⟩
      simp [b__law_measure_1, hc]
    · have e1 : ((x : Int) % y) = ((x % y : Nat) : Int) := (Int.natCast_emod x y).symm
      have hlt := Nat.mod_lt x (Nat.pos_of_ne_zero z)
      refine ⟨.nx [.dat (.int y), .dat (.int (x % y : Nat)), .dat (.int (0 + i))], ?_, .inl ⟨_, .inl rfl, y, x % y, _, rfl, rfl, by rw [← gcd_rec', hg], by omega⟩⟩
      have z' : ¬ ((y : Int) = 0) := by omega
      simp [b__law_measure_1, hc, z', z, mod_int (show (0 : Int) < y by omega)])
  rcases h2 with ⟨e2, rfl, x, y, c, rfl, _, _, h⟩ | ⟨i, hi, c, c', rfl⟩
  · omega
  · simp [f__law_measure, r1n (b := 4000) (n := 4000) (by omega) (by omega) rfl, h1]
/-! picks as values -/
def isI : D → Bool
  | .int _ => true
  | _ => false
def toI : D → Int
  | .int i => i
  | _ => 0
@[simp] theorem isI_ (i : Int) : isI (.int i) = true := id rfl
@[simp] theorem toI_ (i : Int) : toI (.int i) = i := id rfl
def pk (ds : List Int) (k : Nat) (row : List D) : D := row.getD (dr ds k 1000 % row.length).toNat .none
def pkI (ds : List Int) (k : Nat) (row : List Int) : Int := row.getD (dr ds k 1000 % row.length).toNat 0
theorem pick_lt (ds : List Int) (k n : Nat) (h : 0 < n) : (dr ds k 1000 % n).toNat < n := by
  have h1 : 0 ≤ dr ds k 1000 % n := Int.emod_nonneg _ (by omega)
  have h2 : dr ds k 1000 % n < n := Int.emod_lt_of_pos _ (by omega)
  omega
theorem pick_pk (ds : List Int) (k : Nat) (row : List D) (h : row ≠ []) : f__law_pick [bx ds k, .list row] = some (pk ds k row, [bx ds (k + 1)]) := by
  have hr : 0 < row.length := List.length_pos_iff.mpr h
  have h3 := pick_lt ds k row.length hr
  have h4 := List.getElem?_eq_getElem h3
  rw [pick_eq ds k row _ h4]
  simp [pk, List.getD, h4]
theorem pk_mem (ds : List Int) (k : Nat) {row : List D} (h : row ≠ []) : pk ds k row ∈ row := by
  have hr : 0 < row.length := List.length_pos_iff.mpr h
  have h3 := pick_lt ds k row.length hr
  have h4 := List.getElem?_eq_getElem h3
  simp [pk, List.getD, h4]
theorem pkI_mem (ds : List Int) (k : Nat) {row : List Int} (h : row ≠ []) : pkI ds k row ∈ row := by
  have hr : 0 < row.length := List.length_pos_iff.mpr h
  have h3 := pick_lt ds k row.length hr
  have h4 := List.getElem?_eq_getElem h3
  simp [pkI, List.getD, h4]
theorem map_toI : ∀ {row : List D}, row.all isI = true → (row.map toI).map PyData.int = row
  | [], _ => rfl
  | d :: r, h => by
    simp only [List.all_cons, Bool.and_eq_true] at h
    cases d with
    | int i => simp [map_toI h.2]
    | _ => simp [isI] at h
theorem pick_int (ds : List Int) (k : Nat) (row : List D) (h : row ≠ []) (hi : row.all isI = true) : f__law_pick [bx ds k, .list row] = some (.int (pkI ds k (row.map toI)), [bx ds (k + 1)]) := by
  rw [pick_pk ds k row h]
  have h1 : pk ds k row = .int (pkI ds k (row.map toI)) := by
    have hr : 0 < row.length := List.length_pos_iff.mpr h
    have h3 := pick_lt ds k row.length hr
    have h4 := List.getElem?_eq_getElem h3
    have h5 : row[(dr ds k 1000 % row.length).toNat] ∈ row := List.getElem_mem h3
    have h6 := List.all_eq_true.mp hi _ h5
    simp only [pk, pkI, List.getD, h4, List.length_map, List.getElem?_map, Option.map_some, Option.getD_some]
    cases hq : row[(dr ds k 1000 % row.length).toNat] with
    | int i => rfl
    | _ => rw [hq] at h6; simp [isI] at h6
  rw [h1]
theorem pkI_all (ds : List Int) (k : Nat) {row : List Int} (P : Int → Prop) (h : row ≠ []) (hp : ∀ x ∈ row, P x) : P (pkI ds k row) := hp _ (pkI_mem ds k h)
end CM

namespace CM
open PySem HD
theorem cut_lo {α : Type} (ds : List α) {m : Int} (h : 0 ≤ m) : cutD ds none (some m) = ds.take m.toNat := by
  obtain ⟨k, rfl⟩ := Int.eq_ofNat_of_zero_le h
  simp only [cutD, HT.sIx_none, HT.sIx_nat, List.drop_zero, Nat.sub_zero, Int.toNat_natCast]
  rw [List.take_eq_take_iff]; omega
theorem mixed_eq (ds : List Int) (L : List D) (hL : L.length ≤ 100000) : ∀ k, ∃ L', f__law_mixed [bx ds k, .list L] = some (.list L', [bx ds (k + L.length)]) ∧ L'.length = L.length ∧ ∀ d ∈ L', d ∈ L := by
  intro k
  obtain ⟨e', h1, l, f, c, h2, h3, h4, h5, h6, h7⟩ := for_rng (g := gdName 4) (t := b__law_mixed_1) (lo := 0) (n := L.length) (e := [.io (bx ds k), .dat (.list L), .own (.list L), .own (.list []), .un])
    (fun i e => ∃ l f c, e = [.io (bx ds (k + i)), .dat (.list L), .own (.list l), .own (.list f), c] ∧ c.free = true ∧ l.length + i = L.length ∧ f.length = i ∧ (∀ d ∈ l, d ∈ L) ∧ (∀ d ∈ f, d ∈ L)) ⟨L, [], .un, rfl, rfl, by omega, rfl, fun d h => h, by simp⟩ (by
    rintro i e hi ⟨l, f, c, rfl, hc, hl, hf, m1, m2⟩
    have hlp : 0 < l.length := by omega
    have h3 := pick_lt ds (k + i) l.length hlp
    obtain ⟨j, hj⟩ : ∃ j : Nat, dr ds (k + i) 1000 % (l.length : Int) = j := Int.eq_ofNat_of_zero_le (Int.emod_nonneg _ (by omega))
    have hjl : j < l.length := by rw [hj] at h3; simpa using h3
    have hm := mod_int (a := dr ds (k + i) 1000) (b := (l.length : Int)) (by omega)
    rw [hj] at hm
    have hpop : D.popAt (.list l) [.int (j : Int)] = some (l[j], .list (l.eraseIdx j)) := by
      have e1 : seqIndex? (j : Int) l.length = some j := by unfold seqIndex?; simp; omega
      have e2 : (j : Int).natAbs < 2 ^ 63 := by omega
      have e3 : l[j]? = some l[j] := List.getElem?_eq_getElem hjl
      show (if (j : Int).natAbs < 2 ^ 63 then _ else _) = _
      rw [if_pos e2, e1]
      simp [e3]
    have happ : D.append (.list f) [l[j]] = some (.none, .list (f ++ [l[j]])) := append_list (by omega)
    refine ⟨[.io (bx ds (k + i + 1)), .dat (.list L), .own (.list (l.eraseIdx j)), .own (.list (f ++ [l[j]])), .dat (.int (0 + i))], .inl ?_, _, _, _, rfl, rfl, ?_, by simp [hf], fun d h => m1 d (List.mem_of_mem_eraseIdx h), fun d h => ?_⟩
    · simp [b__law_mixed_1, hc, draw_eq, hm, hpop, happ]
    · rw [List.length_eraseIdx_of_lt hjl]; omega
    · rcases List.mem_append.mp h with h | h
      · exact m2 d h
      · rw [List.mem_singleton.mp h]; exact m1 _ (List.getElem_mem hjl))
  subst h2
  refine ⟨f, ?_, h5, h7⟩
  have hr := r1n (b := (L.length : Int)) (n := L.length) (by omega) (by omega) (by omega)
  simp [f__law_mixed, D.list1, hr, h1]
theorem canLay_ints : ∀ {L : List D}, (∀ d ∈ L, ∃ v : Int, d = .int v) → PyData.canLayAll0 L = true ∧ PyData.depthAll L ≤ 1
  | [], _ => by simp [PyData.canLayAll0, PyData.depthAll]
  | d :: L, h => by
    obtain ⟨v, rfl⟩ := h d (by simp)
    obtain ⟨h1, h2⟩ := canLay_ints (L := L) fun d hd => h d (by simp [hd])
    simp [PyData.canLayAll0, PyData.canLay0, PyData.depthAll, PyData.depth, h1]
    omega
theorem shaped_ints {L : List D} (h : ∀ d ∈ L, ∃ v : Int, d = .int v) : SeqAt.shaped (.list L) = true := by
  obtain ⟨h1, h2⟩ := canLay_ints h
  simp [SeqAt.shaped, PyData.canLay0, PyData.depth, h1]
  omega
theorem ne_self_list {L : List D} (h : SeqAt.shaped (.list L) = true) : D.ne (.list L) (.list L) = some (.bool false) := by
  have : PyData.eqv (.list L) (.list L) = true := SeqAt.eqv_refl _ (SeqAt.canLay_of_shaped h)
  simp [D.ne, D.neS, D.neG, h, this]
theorem eq_nil {L : List D} (h : SeqAt.shaped (.list L) = true) : D.eq (.list L) (.list []) = some (.bool L.isEmpty) := by
  have h2 : SeqAt.shaped (.list []) = true := by decide +kernel
  cases L with
  | nil => simp [D.eq, D.eqS, D.eqG, h, PyData.eqv, PyData.eqvAll]
  | cons d L => simp [D.eq, D.eqS, D.eqG, h, h2, PyData.eqv, PyData.eqvAll]
theorem ok_ints {n : Nat} {L : List D} (hl : L.length ≤ 16777216) (h : ∀ d ∈ L, ∃ v : Int, d = .int v ∧ v.natAbs < 1000000000000000000000) : okD (n + 2) (.list L) = true := by
  simp only [okD, Bool.and_eq_true, decide_eq_true_eq, List.all_eq_true]
  refine ⟨hl, fun d hd => ?_⟩
  obtain ⟨v, rfl, hv⟩ := h d hd
  simp [okD, log2_lt hv]
theorem lc_map0 {el : XD} {i n : Nat} {e : HD.Env} (r : Nat → D) (h : ∀ j, j < n → (gdName i (.int (j : Nat)) e).bind (fun e1 => (el e1).bind fun q => (q.1.take q.2).bind fun y => (wipeC [i] y.2).map fun e5 => (y.1, e5)) = some (r j, e)) : dLcGo (gdName i) dYes el [i] (rangeD 0 n) e = some ((List.range n).map r, e) := by
  have := lc_map (el := el) (i := i) (e := e) (lo := 0) r n 0 (fun j _ hj => by rw [Int.zero_add]; exact h j (by omega))
  rw [List.range_eq_range']
  simpa using this
theorem lc_filterK {c : TD} {el : XD} {i : Nat} {e : HD.Env} (p : Nat → Bool) (r : Nat → D) : ∀ (n k : Nat), (∀ j, k ≤ j → j < k + n → ∃ e2, (gdName i (.int (j : Nat)) e).bind c = some (p j, e2) ∧ (if p j = true then ((el e2).bind fun q => (q.1.take q.2).bind fun y => (wipeC [i] y.2).map fun e5 => (y.1, e5)) = some (r j, e) else wipeC [i] e2 = some e)) → dLcGo (gdName i) c el [i] (rangeD (k : Nat) n) e = some (((List.range' k n).filter p).map r, e)
  | 0, k, _ => rfl
  | n + 1, k, h => by
    obtain ⟨e2, h0, h1⟩ := h k (Nat.le_refl _) (by omega)
    have ih := lc_filterK (c := c) (el := el) (i := i) (e := e) p r n (k + 1) (fun j h3 h4 => h j (by omega) (by omega))
    rw [show (((k + 1 : Nat)) : Int) = k + 1 by omega] at ih
    rw [range_s, dLcGo_cons]
    cases hg : gdName i (.int (k : Nat)) e with
    | none => rw [hg] at h0; simp at h0
    | some e1 =>
      rw [hg] at h0
      simp only [Option.bind_some] at h0 ⊢
      rw [h0]
      simp only [Option.bind_some]
      by_cases hp : p k = true
      · rw [if_pos hp] at h1 ⊢
        cases hq : el e2 with
        | none => rw [hq] at h1; simp at h1
        | some q =>
          rw [hq] at h1
          simp only [Option.bind_some] at h1 ⊢
          cases hy : q.1.take q.2 with
          | none => rw [hy] at h1; simp at h1
          | some y =>
            rw [hy] at h1
            simp only [Option.bind_some] at h1 ⊢
            cases hw : wipeC [i] y.2 with
            | none => rw [hw] at h1; simp at h1
            | some e5 =>
              rw [hw] at h1
              simp only [Option.map_some, Option.some.injEq, Prod.mk.injEq] at h1
              obtain ⟨h2, h3⟩ := h1
              subst h3
              simp only [Option.bind_some, ih, Option.map_some, List.range'_succ]
              rw [List.filter_cons_of_pos hp, List.map_cons, h2]
      · rw [if_neg hp] at h1 ⊢
        simp only [h1, Option.bind_some, ih, List.range'_succ]
        rw [List.filter_cons_of_neg hp]
theorem lc_filter0 {c : TD} {el : XD} {i n : Nat} {e : HD.Env} (p : Nat → Bool) (r : Nat → D) (h : ∀ j, j < n → ∃ e2, (gdName i (.int (j : Nat)) e).bind c = some (p j, e2) ∧ (if p j = true then ((el e2).bind fun q => (q.1.take q.2).bind fun y => (wipeC [i] y.2).map fun e5 => (y.1, e5)) = some (r j, e) else wipeC [i] e2 = some e)) : dLcGo (gdName i) c el [i] (rangeD 0 n) e = some (((List.range n).filter p).map r, e) := by
  have := lc_filterK (c := c) (el := el) (i := i) (e := e) p r n 0 (fun j _ hj => h j (by omega))
  rw [List.range_eq_range']
  exact this
theorem join_nil_toList (zs : List Str) : (Txt.join "" zs).cps.toList = (zs.map fun z => z.cps.toList).flatten := by
  have key : ∀ (r : List Str) (a : Array Nat), (r.foldl (fun acc p => acc ++ ("" : Str).cps ++ p.cps) a).toList = a.toList ++ (r.map fun z => z.cps.toList).flatten := by
    intro r
    induction r with
    | nil => intro a; simp
    | cons p r ih =>
      intro a
      rw [List.foldl_cons, ih]
      have : ("" : Str).cps = #[] := by decide +kernel
      simp [this]
  cases zs with
  | nil => decide +kernel
  | cons z r =>
    show (r.foldl _ z.cps).toList = _
    rw [key]
    simp
@[simp] theorem str?_str (x : Str) : D.str? (.str x) = some x := id rfl
/-- a text of single signs -/
def sing (c : Nat) : Str := ⟨#[c]⟩
theorem chars_join (cs : List Nat) : chars (Txt.join "" (cs.map sing)) = cs.map fun c => .str (sing c) := by
  unfold chars
  rw [join_nil_toList]
  have : ((cs.map sing).map fun z => z.cps.toList).flatten = cs := by
    induction cs with
    | nil => rfl
    | cons c r ih => simp only [List.map_cons, List.flatten_cons, ih]; rfl
  rw [this]
  rfl
theorem join_sing (cs : List Nat) : Txt.join "" (cs.map sing) = ⟨cs.toArray⟩ := by
  have h : ((cs.map sing).map fun z => z.cps.toList).flatten = cs := by
    induction cs with
    | nil => rfl
    | cons c r ih => simp only [List.map_cons, List.flatten_cons, ih]; rfl
  have := join_nil_toList (cs.map sing)
  rw [h] at this
  cases hj : Txt.join "" (cs.map sing) with
  | mk a => rw [hj] at this; simp only at this; rw [← this]
theorem chars_mk (cs : List Nat) : chars ⟨cs.toArray⟩ = cs.map fun c => .str (sing c) := by
  simp [chars, sing]
theorem join_ok (cs : List Nat) (h : cs.length ≤ 1000000) : S.join (.str "") [.list (cs.map fun c => .str (sing c))] = some (.str ⟨cs.toArray⟩) := by
  rw [show (cs.map fun c => PyData.str (sing c)) = (cs.map sing).map .str by rw [List.map_map]; rfl]
  have h1 : ((cs.map sing).map (·.length)).sum = cs.length := by
    induction cs with
    | nil => rfl
    | cons c r ih =>
      simp only [List.map_cons, List.sum_cons, List.length_cons]
      rw [ih (by simp at h; omega)]
      show 1 + _ = _
      omega
  have h2 : ("" : Str).length = 0 := by decide +kernel
  simp only [S.join, strs?_map, Option.bind_some, h1, List.length_map, h2, Nat.mul_zero, Nat.add_zero]
  rw [if_pos (by omega), join_sing]
theorem pick_str (ds : List Int) (k : Nat) (cs : List Nat) (hc : cs ≠ []) (hl : cs.length ≤ 1000000) : f__law_pick [bx ds k, .str ⟨cs.toArray⟩] = some (.str (sing (cs.getD (dr ds k 1000 % cs.length).toNat 0)), [bx ds (k + 1)]) := by
  have hr : 0 < cs.length := List.length_pos_iff.mpr hc
  have h3 := pick_lt ds k cs.length hr
  obtain ⟨j, hj⟩ : ∃ j : Nat, dr ds k 1000 % (cs.length : Int) = j := Int.eq_ofNat_of_zero_le (Int.emod_nonneg _ (by omega))
  rw [hj, Int.toNat_natCast] at h3
  have h4 := List.getElem?_eq_getElem h3
  have hlen : (⟨cs.toArray⟩ : Str).length = cs.length := by show cs.toArray.size = _; simp
  have hD : D.len [.str ⟨cs.toArray⟩] = some (.int cs.length) := by
    show (if (⟨cs.toArray⟩ : Str).length ≤ 16777216 then _ else _) = _
    rw [if_pos (by omega), hlen]
  have hm := mod_int (a := dr ds k 1000) (b := (cs.length : Int)) (by omega)
  rw [hj] at hm
  rw [hj, Int.toNat_natCast]
  have hx : D.ix (.str ⟨cs.toArray⟩) (.int (j : Nat)) = some (.str (sing (cs.getD j 0))) := by
    rw [ix_str (c := cs.getD j 0) (by omega) (by simp [List.getD, h4])]; rfl
  simp [f__law_pick, draw_eq, hD, hm, hx]
end CM

/-! texts as lists of codes -/
namespace CM
open PySem HD L2
/-- the text of these codes -/
def tx (l : List Nat) : Str := ⟨l.toArray⟩
theorem tx_len (l : List Nat) : (tx l).length = l.length := by show l.toArray.size = _; simp
theorem tx_list (l : List Nat) : (tx l).cps.toList = l := rfl
theorem tx_inj {a b : List Nat} : tx a = tx b ↔ a = b := by
  constructor
  · intro h
    have := congrArg (fun s : Str => s.cps.toList) h
    exact this
  · intro h; rw [h]
theorem tx_app (a b : List Nat) : tx a ++ tx b = tx (a ++ b) := by
  show (⟨a.toArray ++ b.toArray⟩ : Str) = ⟨(a ++ b).toArray⟩
  rw [List.append_toArray]
theorem tx_of {x : Str} {l : List Nat} (h : x.cps.toList = l) : x = tx l := by
  subst h
  cases x
  simp [tx]
theorem sing_tx (c : Nat) : sing c = tx [c] := rfl
theorem add_tx {a b : List Nat} (h : a.length + b.length ≤ 16777216) : D.add (.str (tx a)) (.str (tx b)) = some (.str (tx (a ++ b))) := by
  rw [← tx_app]
  exact if_pos (by rw [tx_len, tx_len]; exact h)
theorem iadd_tx {a b : List Nat} (h : a.length + b.length ≤ 16777216) : D.iadd (.str (tx a)) (.str (tx b)) = some (.str (tx (a ++ b))) := by
  rw [← tx_app]
  exact if_pos (by rw [tx_len, tx_len]; exact h)
theorem len_tx {a : List Nat} (h : a.length ≤ 16777216) : D.len [.str (tx a)] = some (.int a.length) := by
  have : D.len [.str (tx a)] = some (.int (tx a).length) := if_pos (by rw [tx_len]; exact h)
  rw [this, tx_len]
theorem ix_tx {a : List Nat} {i c : Nat} (hl : a.length ≤ 16777216) (h : a[i]? = some c) : D.ix (.str (tx a)) (.int i) = some (.str (tx [c])) := by
  rw [ix_str (c := c) (by rw [tx_len]; exact hl) h]; rfl
theorem eq_tx (a b : List Nat) : D.eq (.str (tx a)) (.str (tx b)) = some (.bool (decide (a = b))) := by
  rw [eq_str]; simp only [tx_inj]
theorem ne_tx (a b : List Nat) : D.ne (.str (tx a)) (.str (tx b)) = some (.bool (!decide (a = b))) := by
  rw [ne_str]; simp only [tx_inj]
theorem cut_hi (l : List Nat) (k : Nat) : cutS (tx l) none (some (k : Int)) = tx (l.take k) := by
  simp only [cutS, HT.sIx_none, HT.sIx_nat, List.drop_zero, Nat.sub_zero, tx_list, tx_len]
  congr 2
  rw [List.take_eq_take_iff]; omega
theorem cut_from (l : List Nat) (k : Nat) : cutS (tx l) (some (k : Int)) none = tx (l.drop k) := by
  simp only [cutS, HT.sIx_none, HT.sIx_nat, tx_list, tx_len]
  congr 1
  have h1 : l.drop (min k l.length) = l.drop k := by
    by_cases h : k ≤ l.length
    · rw [Nat.min_eq_left h]
    · rw [Nat.min_eq_right (by omega), List.drop_eq_nil_of_le (Nat.le_refl _), List.drop_eq_nil_of_le (by omega)]
  rw [h1, List.take_of_length_le (by rw [List.length_drop]; omega)]
theorem cut_both (l : List Nat) (i j : Nat) (hi : i ≤ l.length) : cutS (tx l) (some (i : Int)) (some (j : Int)) = tx ((l.drop i).take (j - i)) := by
  simp only [cutS, HT.sIx_nat, tx_list, tx_len]
  congr 2
  rw [Nat.min_eq_left hi, List.take_eq_take_iff, List.length_drop]; omega
theorem sl_hi {l : List Nat} {k : Nat} (h : l.length ≤ 16777216) : D.sliceS (.str (tx l)) none (some (k : Int)) = some (.str (tx (l.take k))) := by
  rw [← cut_hi]; exact if_pos (by rw [tx_len]; exact h)
theorem sl_from {l : List Nat} {k : Nat} (h : l.length ≤ 16777216) : D.sliceS (.str (tx l)) (some (k : Int)) none = some (.str (tx (l.drop k))) := by
  rw [← cut_from]; exact if_pos (by rw [tx_len]; exact h)
theorem sl_both {l : List Nat} {i j : Nat} (h : l.length ≤ 16777216) (hi : i ≤ l.length) : D.sliceS (.str (tx l)) (some (i : Int)) (some (j : Int)) = some (.str (tx ((l.drop i).take (j - i)))) := by
  rw [← cut_both l i j hi]; exact if_pos (by rw [tx_len]; exact h)
theorem chars_tx (l : List Nat) : chars (tx l) = l.map fun c => .str (tx [c]) := rfl
/-- many times -/
theorem fold_rep (l : List Nat) : ∀ (n : Nat) (acc : List Nat), ((List.replicate n l.toArray).foldl (· ++ ·) acc.toArray) = (acc ++ (List.replicate n l).flatten).toArray
  | 0, acc => by simp
  | n + 1, acc => by
    rw [List.replicate_succ, List.foldl_cons, List.append_toArray, fold_rep l n, List.replicate_succ, List.flatten_cons, List.append_assoc]
theorem mul_tx {a : List Nat} {n : Nat} (h : n ≤ 1000000) (h2 : a.length * n ≤ 1000000) : D.mulS (.str (tx a)) (.int n) = some (.str (tx (List.replicate n a).flatten)) := by
  have hc : ((n : Int)).natAbs ≤ 1000000 ∧ (tx a).length * ((n : Int)).toNat ≤ 1000000 := by rw [tx_len, Int.toNat_natCast]; omega
  have e : D.mulS (.str (tx a)) (.int n) = some (.str (Txt.mul (tx a) n)) := if_pos hc
  rw [e]
  congr 2
  unfold Txt.mul
  by_cases h1 : (n : Int) < 1
  · have : n = 0 := by omega
    rw [if_pos h1, this]; rfl
  · rw [if_neg h1]
    split
    · rename_i hh
      rw [tx_len, Bool.or_eq_true, beq_iff_eq, beq_iff_eq] at hh
      rcases hh with hh | hh
      · have : n = 1 := by omega
        subst this
        simp
      · have : a = [] := List.length_eq_zero_iff.mp hh
        subst this
        simp
    · rw [Int.toNat_natCast]
      have := fold_rep a n []
      simp only [List.nil_append] at this
      show (⟨(List.replicate n a.toArray).foldl (· ++ ·) #[]⟩ : Str) = tx _
      rw [show (#[] : Array Nat) = ([] : List Nat).toArray from rfl, this]
      rfl
/-- the figures of a number -/
def sn (n : Nat) : List Nat := (Nat.toDigits 10 n).map Char.toNat
theorem str_nat (n : Nat) : (((toString (n : Int) : String) : Str)) = tx (sn n) := by
  have h : (toString (n : Int) : String) = Nat.repr n := rfl
  rw [h, Str.ofString_eq_toList, Nat.toList_repr]
  rfl
theorem str1_tx {n : Nat} (h : n < 1000000000000000000000) : D.str1 [.int n] = some (.str (tx (sn n))) := by
  rw [← str_nat]
  exact if_pos (log2_lt (by omega))
theorem digit_code {d : Nat} (h : d < 10) : (Nat.digitChar d).toNat = 48 + d := Nat.toNat_digitChar_of_lt_ten h
theorem sn_small {d : Nat} (h : d < 10) : sn d = [48 + d] := by
  rw [sn, Nat.toDigits_of_lt_base h, List.map_cons, List.map_nil, digit_code h]
theorem sn_big {n : Nat} (h : 10 ≤ n) : sn n = sn (n / 10) ++ [48 + n % 10] := by
  rw [sn, Nat.toDigits_of_base_le (by omega) h, List.map_append, List.map_cons, List.map_nil, digit_code (Nat.mod_lt _ (by omega))]
  rfl
theorem sn_pos (n : Nat) : 1 ≤ (sn n).length := by
  by_cases h : n < 10
  · rw [sn_small h]; simp
  · rw [sn_big (by omega)]; simp
theorem sn_len : ∀ (k n : Nat), n < 10 ^ (k + 1) → (sn n).length ≤ k + 1
  | 0, n, h => by rw [sn_small (by omega)]; simp
  | k + 1, n, h => by
    by_cases hn : n < 10
    · rw [sn_small hn]; simp
    · have := sn_len k (n / 10) (by rw [Nat.pow_succ] at h; omega)
      rw [sn_big (by omega), List.length_append]
      simp; omega
theorem sn_dig {c : Nat} : ∀ (n : Nat), c ∈ sn n → 48 ≤ c ∧ c < 58 := by
  intro n
  induction n using Nat.strongRecOn with
  | ind n ih =>
    intro h
    by_cases hn : n < 10
    · rw [sn_small hn, List.mem_singleton] at h; omega
    · rw [sn_big (by omega), List.mem_append, List.mem_singleton] at h
      rcases h with h | h
      · exact ih (n / 10) (by omega) h
      · omega
/-! alike texts -/
theorem repr_all : ∀ c, c < 128 → (Builtin.Str.reprChar 39 c).length ≤ 4 ∧ (Builtin.Str.reprChar 34 c).length ≤ 4 := by decide +kernel
theorem quote_is (x : Str) : reprQuote x = 39 ∨ reprQuote x = 34 := by
  unfold reprQuote
  split
  · exact .inr rfl
  · exact .inl rfl
theorem repr_le {q : Nat} (hq : q = 39 ∨ q = 34) : ∀ (l : List Nat) (n : Nat), (∀ c ∈ l, c < 128) → l.foldl (fun n c => n + (Builtin.Str.reprChar q c).length) n ≤ n + 4 * l.length
  | [], n, _ => by simp
  | c :: l, n, h => by
    have h1 := repr_all c (h c (by simp))
    have h2 := repr_le hq l (n + (Builtin.Str.reprChar q c).length) fun c hc => h c (by simp [hc])
    have h3 : (Builtin.Str.reprChar q c).length ≤ 4 := by
      rcases hq with rfl | rfl
      · exact h1.1
      · exact h1.2
    rw [List.foldl_cons, List.length_cons]
    omega
theorem okD_tx {n : Nat} {l : List Nat} (h : l.length ≤ 1000000) (hc : ∀ c ∈ l, c < 128) : okD (n + 1) (.str (tx l)) = true := by
  show decide _ = true
  rw [decide_eq_true_eq, ← reprLen_eq, ← Array.foldl_toList, tx_list]
  have := repr_le (quote_is (tx l)) l 2 hc
  omega
theorem same_tx {l : List Nat} (h : l.length ≤ 1000000) (hc : ∀ c ∈ l, c < 128) : f__law_same [.str (tx l), .str (tx l)] = some (.bool true, []) := same_eq _ (okD_tx h hc)
end CM
namespace CM
open PySem HD L2
theorem shaped_tx {l : List Nat} (h : ∀ c ∈ l, c < 128) : SeqAt.shaped (.str (tx l)) = true := by
  have : PyData.strOk (tx l) = true := by
    unfold PyData.strOk
    simp only [tx, Array.all_eq_true, decide_eq_true_eq]
    intro i hi
    have := h (l.toArray[i]) (by simp)
    omega
  simp [SeqAt.shaped, PyData.canLay0, PyData.depth, this]
theorem eqv_str (a b : Str) : PyData.eqv (.str a) (.str b) = decide (a = b) := by
  rw [Bool.eq_iff_iff, decide_eq_true_eq]
  simp [PyData.eqv]
theorem in_txs {l : List Nat} {ls : List (List Nat)} (h : ∀ c ∈ l, c < 128) (hs : ∀ r ∈ ls, ∀ c ∈ r, c < 128) : D.isIn (.str (tx l)) (.list (ls.map fun l => .str (tx l))) = some (.bool (ls.any fun r => r == l)) := by
  have h3 : (ls.map fun l => PyData.str (tx l)).all SeqAt.shaped = true := by
    rw [List.all_eq_true]
    intro d hd
    obtain ⟨r, hr, rfl⟩ := List.mem_map.mp hd
    exact shaped_tx (hs r hr)
  have h4 : D.isIn (.str (tx l)) (.list (ls.map fun l => .str (tx l))) = some (.bool ((ls.map fun l => PyData.str (tx l)).any fun d => PyData.eqv d (.str (tx l)))) := if_pos ⟨shaped_tx h, h3⟩
  rw [h4, List.any_map]
  congr 3
  funext r
  simp only [Function.comp]
  rw [eqv_str, Bool.eq_iff_iff, decide_eq_true_eq, tx_inj, beq_iff_eq]
end CM

/-! more helpers -/
namespace CM
open PySem HD L2
@[simp] theorem max2_ (i j : Int) : D.max2 [.int i, .int j] = some (.int (if j > i then j else i)) := id rfl
@[simp] theorem min2_ (i j : Int) : D.min2 [.int i, .int j] = some (.int (if j < i then j else i)) := id rfl
theorem ints_map : ∀ (l : List Int), ints? (l.map PyData.int) = some l
  | [] => rfl
  | a :: l => by rw [List.map_cons, ints?, ints_map l]; rfl
theorem sum_ints (l : List Int) : D.sum [.list (l.map PyData.int)] = some (.int l.sum) := by
  show (ints? _).map _ = _
  rw [ints_map]; rfl
theorem bools_map : ∀ (l : List Bool), bools? (l.map PyData.bool) = some l
  | [] => rfl
  | a :: l => by rw [List.map_cons, bools?, bools_map l]; rfl
theorem all_bools (l : List Bool) : D.all [.list (l.map PyData.bool)] = some (.bool (l.all id)) := by
  show (bools? _).map _ = _
  rw [bools_map]; rfl
theorem eqv_int (a b : Int) : PyData.eqv (.int a) (.int b) = decide (a = b) := by
  rw [Bool.eq_iff_iff, decide_eq_true_eq]
  simp [PyData.eqv]
theorem in_ints (x : Int) (l : List Int) : D.isIn (.int x) (.list (l.map PyData.int)) = some (.bool (decide (x ∈ l))) := by
  have h3 : (l.map PyData.int).all SeqAt.shaped = true := by simp [List.all_eq_true]
  have h4 : D.isIn (.int x) (.list (l.map PyData.int)) = some (.bool ((l.map PyData.int).any fun d => PyData.eqv d (.int x))) := if_pos ⟨rfl, h3⟩
  rw [h4, List.any_map]
  congr 2
  rw [Bool.eq_iff_iff, List.any_eq_true, decide_eq_true_eq]
  constructor
  · rintro ⟨y, h1, h2⟩
    simp only [Function.comp, eqv_int, decide_eq_true_eq] at h2
    rw [← h2]; exact h1
  · intro h
    exact ⟨x, h, by simp only [Function.comp, eqv_int, decide_eq_true_eq]⟩
theorem notin_ints (x : Int) (l : List Int) : D.notIn (.int x) (.list (l.map PyData.int)) = some (.bool (!decide (x ∈ l))) := by
  have h3 : (l.map PyData.int).all SeqAt.shaped = true := by simp [List.all_eq_true]
  have h4 : D.notIn (.int x) (.list (l.map PyData.int)) = some (.bool (!(l.map PyData.int).any fun d => PyData.eqv d (.int x))) := if_pos ⟨rfl, h3⟩
  have h5 := in_ints x l
  have h6 : D.isIn (.int x) (.list (l.map PyData.int)) = some (.bool ((l.map PyData.int).any fun d => PyData.eqv d (.int x))) := if_pos ⟨rfl, h3⟩
  rw [h6, Option.some.injEq, PyData.bool.injEq] at h5
  rw [h4, h5]
theorem mul_wide {a b : Int} (ha : a.natAbs < 2 ^ 1000) (hb : b.natAbs < 2 ^ 1000) : D.mul (.int a) (.int b) = some (.int (a * b)) := by
  have key : ∀ {n : Nat}, n < 2 ^ 1000 → n.log2 ≤ 1000 := by
    intro n h
    by_cases h0 : n = 0
    · rw [h0]; decide
    · have := (Nat.log2_lt h0).mpr h; omega
  have h1 := key ha
  have h2 := key hb
  exact if_pos (.inr (by omega))
theorem dSeq_nx {t u : SD} {e e1 : HD.Env} (h : t e = some (.nx e1)) : dSeq t u e = u e1 := by rw [dSeq_, h, Option.bind_some, seqK_nx]
theorem dSeq_rt {t u : SD} {e e1 : HD.Env} {d : D} (h : t e = some (.rt d e1)) : dSeq t u e = some (.rt d e1) := by rw [dSeq_, h, Option.bind_some, seqK_rt]
theorem dFn_rt {n : Nat} {ms : List Bool} {body : SD} {ds os : List D} {e e0 e1 : HD.Env} {d : D} (h1 : initE ms ds = some e) (h2 : e ++ List.replicate (n - ms.length) .un = e0) (h3 : body e0 = some (.rt d e1)) (h4 : outsE e1 0 ms = some os) : dFn n ms body ds = some (d, os) := by
  rw [dFn_, h1, Option.bind_some, h2, h3, Option.bind_some, endK_rt, h4, Option.map_some]
/-- a digit's number -/
theorem index_dig {c : Nat} (h : 48 ≤ c ∧ c < 58) : S.index (.str "0123456789") [.str (tx [c])] = some (.int ((c - 48 : Nat) : Int)) := by
  obtain rfl | rfl | rfl | rfl | rfl | rfl | rfl | rfl | rfl | rfl : c = 48 ∨ c = 49 ∨ c = 50 ∨ c = 51 ∨ c = 52 ∨ c = 53 ∨ c = 54 ∨ c = 55 ∨ c = 56 ∨ c = 57 := by omega
  all_goals kernel_rfl!
theorem int_dig {c : Nat} (h : 48 ≤ c ∧ c < 58) : D.intS [.str (tx [c])] = some (.int ((c - 48 : Nat) : Int)) := by
  obtain rfl | rfl | rfl | rfl | rfl | rfl | rfl | rfl | rfl | rfl : c = 48 ∨ c = 49 ∨ c = 50 ∨ c = 51 ∨ c = 52 ∨ c = 53 ∨ c = 54 ∨ c = 55 ∨ c = 56 ∨ c = 57 := by omega
  all_goals kernel_rfl!
theorem range3_ (i j c : Int) : range3 [.int i, .int j, .int c] = if c ≠ 0 ∧ c.natAbs < 1073741824 ∧ Builtin.Range.small i j c = true ∧ 0 ≤ Builtin.Range.rangeSize i j c then some (rangeC i c (Builtin.Range.rangeSize i j c).toNat) else none := rfl
theorem ix_neg {ds : List D} {k : Nat} {d : D} (h1 : 1 ≤ k) (h2 : k ≤ ds.length) (h : ds[ds.length - k]? = some d) : D.ix (.list ds) (.int (-(k : Int))) = some d := by
  show atI ds _ = _
  unfold atI ixN
  rw [if_neg (by omega), if_pos (by omega), Option.bind_some, show (-(k : Int) + ds.length).toNat = ds.length - k by omega]
  exact h
end CM

/-! rows of numbers without a sign -/
namespace CM
open PySem HD L2
def zl (l : List Nat) : List Int := l.map fun n : Nat => (n : Int)
def nD (l : List Nat) : List D := (zl l).map PyData.int
theorem nD_cons (x : Nat) (l : List Nat) : nD (x :: l) = .int (x : Int) :: nD l := rfl
theorem nD_nil : nD [] = [] := rfl
theorem nD_app (l : List Nat) (x : Nat) : nD l ++ [.int (x : Int)] = nD (l ++ [x]) := by simp [nD, zl]
theorem nD_cat (l m : List Nat) : nD l ++ nD m = nD (l ++ m) := by simp [nD, zl]
theorem nD_len (l : List Nat) : (nD l).length = l.length := by simp [nD, zl]
theorem mem_zl (x : Nat) (l : List Nat) : (x : Int) ∈ zl l ↔ x ∈ l := by
  rw [zl, List.mem_map]
  constructor
  · rintro ⟨y, h1, h2⟩
    have : y = x := by omega
    rw [← this]; exact h1
  · intro h; exact ⟨x, h, rfl⟩
theorem in_nD (x : Nat) (l : List Nat) : D.isIn (.int x) (.list (nD l)) = some (.bool (decide (x ∈ l))) := by
  rw [nD, in_ints]; simp only [mem_zl]
theorem ap_nD {l : List Nat} (x : Nat) (h : l.length ≤ 100000) : D.append (.list (nD l)) [.int (x : Int)] = some (.none, .list (nD (l ++ [x]))) := by
  rw [← nD_app]; exact append_list (by rw [nD_len]; omega)
theorem ints_nD (l : List Nat) : ints? (nD l) = some (zl l) := ints_map _
theorem sum_nD (l : List Nat) : D.sum [.list (nD l)] = some (.int (l.sum : Nat)) := by
  rw [nD, sum_ints]
  congr 2
  induction l with
  | nil => rfl
  | cons x l ih => rw [zl, List.map_cons, List.sum_cons, List.sum_cons, Int.natCast_add]; rw [zl] at ih; rw [ih]
theorem okD_nD {n : Nat} {l : List Nat} (hl : l.length ≤ 100000) (h : ∀ x ∈ l, x < 1000000000) : okD (n + 2) (.list (nD l)) = true := by
  refine ok_ints (by rw [nD_len]; omega) ?_
  intro d hd
  rw [nD, List.mem_map] at hd
  obtain ⟨v, hv, rfl⟩ := hd
  rw [zl, List.mem_map] at hv
  obtain ⟨x, hx, rfl⟩ := hv
  have := h x hx
  exact ⟨x, rfl, by omega⟩
/-- the sorted row -/
def insN (x : Nat) : List Nat → List Nat
  | [] => [x]
  | y :: l => if x < y then x :: y :: l else if x = y then y :: l else y :: insN x l
def sddN (l : List Nat) : List Nat := l.foldl (fun a x => insN x a) []
theorem ins_zl (x : Nat) : ∀ l : List Nat, ins1 (x : Int) (zl l) = zl (insN x l)
  | [] => rfl
  | y :: l => by
    have ih := ins_zl x l
    show ins1 (x : Int) ((y : Int) :: zl l) = zl (insN x (y :: l))
    unfold ins1 insN
    by_cases h1 : x < y
    · rw [if_pos (by omega), if_pos h1]; rfl
    · rw [if_neg (by omega), if_neg h1]
      by_cases h2 : x = y
      · rw [if_pos (by omega), if_pos h2]; rfl
      · rw [if_neg (by omega), if_neg h2, ih]; rfl
theorem sdd_zl (l : List Nat) : sdd (zl l) = zl (sddN l) := by
  have key : ∀ (l a : List Nat), (zl l).foldl (fun a x => ins1 x a) (zl a) = zl (l.foldl (fun a x => insN x a) a) := by
    intro l
    induction l with
    | nil => intro a; rfl
    | cons x l ih =>
      intro a
      show (zl l).foldl (fun a x => ins1 x a) (ins1 (x : Int) (zl a)) = _
      rw [ins_zl, ih]
      rfl
  exact key l []
/-- a walk over a row -/
theorem lc_nD {c : TD} {el : XD} {i : Nat} {e : HD.Env} (p : Nat → Bool) (r : Nat → D) : ∀ (l : List Nat), (∀ j ∈ l, ∃ e2, (gdName i (.int (j : Nat)) e).bind c = some (p j, e2) ∧ (if p j = true then ((el e2).bind fun q => (q.1.take q.2).bind fun y => (wipeC [i] y.2).map fun e5 => (y.1, e5)) = some (r j, e) else wipeC [i] e2 = some e)) → dLcGo (gdName i) c el [i] (nD l) e = some ((l.filter p).map r, e)
  | [], _ => rfl
  | k :: l, h => by
    have ih := lc_nD (c := c) (el := el) (i := i) (e := e) p r l fun j hj => h j (List.mem_cons_of_mem _ hj)
    obtain ⟨e2, h0, h1⟩ := h k (by simp)
    rw [nD_cons, dLcGo_cons]
    cases hg : gdName i (.int (k : Nat)) e with
    | none => rw [hg] at h0; simp at h0
    | some e1 =>
      rw [hg] at h0
      simp only [Option.bind_some] at h0 ⊢
      rw [h0]
      simp only [Option.bind_some]
      by_cases hp : p k = true
      · rw [if_pos hp] at h1 ⊢
        cases hq : el e2 with
        | none => rw [hq] at h1; simp at h1
        | some q =>
          rw [hq] at h1
          simp only [Option.bind_some] at h1 ⊢
          cases hy : q.1.take q.2 with
          | none => rw [hy] at h1; simp at h1
          | some y =>
            rw [hy] at h1
            simp only [Option.bind_some] at h1 ⊢
            cases hw : wipeC [i] y.2 with
            | none => rw [hw] at h1; simp at h1
            | some e5 =>
              rw [hw] at h1
              simp only [Option.map_some, Option.some.injEq, Prod.mk.injEq] at h1
              obtain ⟨h2, h3⟩ := h1
              subst h3
              simp only [Option.bind_some, ih, Option.map_some]
              rw [List.filter_cons_of_pos hp, List.map_cons, h2]
      · rw [if_neg hp] at h1 ⊢
        simp only [h1, Option.bind_some, ih]
        rw [List.filter_cons_of_neg hp]
theorem count_nD (x : Nat) (l : List Nat) : L.count (.list (nD l)) [.int (x : Int)] = some (.int (l.count x : Nat)) := by
  have h3 : SeqAt.shaped (.list (nD l)) = true := shaped_ints (by
    intro d hd
    rw [nD, List.mem_map] at hd
    obtain ⟨v, _, rfl⟩ := hd
    exact ⟨v, rfl⟩)
  have h4 : L.count (.list (nD l)) [.int (x : Int)] = some (.int ((nD l).countP (fun z => PyData.eqv z (.int (x : Int))) : Nat)) := if_pos ⟨h3, rfl⟩
  rw [h4]
  clear h3 h4
  congr 3
  induction l with
  | nil => rfl
  | cons y l ih =>
    rw [nD_cons, List.countP_cons, List.count_cons, ih, eqv_int]
    congr 1
    by_cases z : y = x
    · subst z; simp
    · have : ¬ (y : Int) = (x : Int) := by omega
      simp [z, this]
/-- pairs of numbers -/
def qqD (l : List (Nat × Nat)) : List D := l.map fun q => .tuple [.int (q.1 : Nat), .int (q.2 : Nat)]
theorem qqD_len (l : List (Nat × Nat)) : (qqD l).length = l.length := by simp [qqD]
theorem qqD_cons (q : Nat × Nat) (l : List (Nat × Nat)) : qqD (q :: l) = .tuple [.int (q.1 : Nat), .int (q.2 : Nat)] :: qqD l := rfl
theorem qqD_app (l : List (Nat × Nat)) (a b : Nat) : qqD l ++ [.tuple [.int (a : Nat), .int (b : Nat)]] = qqD (l ++ [(a, b)]) := by simp [qqD]
theorem okD_qqD {n : Nat} {l : List (Nat × Nat)} (hl : l.length ≤ 100000) (h : ∀ x ∈ l, x.1 < 1000000000 ∧ x.2 < 1000000000) : okD (n + 3) (.list (qqD l)) = true := by
  simp only [okD, Bool.and_eq_true, decide_eq_true_eq, List.all_eq_true]
  refine ⟨by rw [qqD_len]; omega, fun d hd => ?_⟩
  rw [qqD, List.mem_map] at hd
  obtain ⟨q, hq, rfl⟩ := hd
  have := h q hq
  have q1 := log2_lt (i := ((q.1 : Nat) : Int)) (by omega)
  have q2 := log2_lt (i := ((q.2 : Nat) : Int)) (by omega)
  rw [Int.natAbs_natCast] at q1 q2
  simp [okD, q1, q2]
/-- a walk over pairs -/
theorem fold_qqD {α : Type} {g : GD} {t : SD} (I : α → HD.Env → Prop) (f : α → Nat × Nat → α) : ∀ (l : List (Nat × Nat)) (a : α) (e : HD.Env), (∀ (a : α) (q : Nat × Nat) (e : HD.Env), q ∈ l → I a e → ∃ e2, (g (.tuple [.int (q.1 : Nat), .int (q.2 : Nat)]) e).bind t = some (.nx e2) ∧ I (f a q) e2) → I a e →
    ∃ e', dForGo g t (qqD l) e = some (.nx e') ∧ I (l.foldl f a) e'
  | [], a, e, _, h => ⟨e, rfl, h⟩
  | q :: l, a, e, hs, h => by
    obtain ⟨e2, h1, h2⟩ := hs a q e (by simp) h
    obtain ⟨e', h3, h4⟩ := fold_qqD I f l (f a q) e2 (fun a q e hq => hs a q e (List.mem_cons_of_mem _ hq)) h2
    refine ⟨e', ?_, h4⟩
    rw [qqD_cons, dForGo_cons]
    cases hg : g (.tuple [.int (q.1 : Nat), .int (q.2 : Nat)]) e with
    | none => rw [hg] at h1; cases h1
    | some e1 =>
      rw [hg, Option.bind_some] at h1
      rw [Option.bind_some, h1, Option.bind_some, forK_nx, h3]
theorem dSortSet_ (fi : ID) (g : GD) (c : TD) (el : XD) (vs : List Nat) (e : HD.Env) : dSortSet fi g c el vs e = (fi e).bind fun p => if p.1.length ≤ 1000 then
  (wipeC vs p.2).bind fun e1 => (dLcGo g c el vs p.1 e1).bind fun r => (ints? r.1).bind fun ns => if (sdd ns).length < 64 then some (.list ((sdd ns).map .int), unwE p.2 vs r.2) else none else none := rfl
theorem zl_len (l : List Nat) : (zl l).length = l.length := by simp [zl]
theorem filter_yes {α : Type} (l : List α) : l.filter (fun _ => true) = l := List.filter_eq_self.mpr fun _ _ => rfl
end CM

set_option exponentiation.threshold 5000
namespace CM
open PySem HD L2
/-! whole numbers from 0 on, great ones too -/
theorem shaped_nD (l : List Nat) : SeqAt.shaped (.list (nD l)) = true := shaped_ints (by
  intro d hd
  rw [CM.nD, List.mem_map] at hd
  obtain ⟨v, _, rfl⟩ := hd
  exact ⟨v, rfl⟩)
theorem index_nD (x : Nat) (l : List Nat) : L.index (.list (nD l)) [.int (x : Int)] = (l.findIdx? (fun y => y == x)).map fun j => .int (j : Nat) := by
  have h4 : L.index (.list (nD l)) [.int (x : Int)] = ((nD l).findIdx? (fun z => PyData.eqv z (.int (x : Int)))).map fun j => .int (j : Nat) := if_pos ⟨shaped_nD l, rfl⟩
  rw [h4]
  clear h4
  congr 1
  induction l with
  | nil => rfl
  | cons y l ih =>
    rw [nD_cons, List.findIdx?_cons, List.findIdx?_cons, ih, eqv_int]
    by_cases z : y = x
    · subst z; simp
    · have : ¬ (y : Int) = (x : Int) := by omega
      simp [z, this]
theorem notin_nD (x : Nat) (l : List Nat) : D.notIn (.int (x : Int)) (.list (nD l)) = some (.bool (!decide (x ∈ l))) := by
  rw [CM.nD, notin_ints]
  congr 3
  rw [decide_eq_decide]
  exact mem_zl x l
theorem log2_2p {n k : Nat} (h : n < 2 ^ k) : n.log2 ≤ k := by
  by_cases h0 : n = 0
  · rw [h0]; exact Nat.zero_le _
  · have := (Nat.log2_lt h0).mpr h; omega
theorem fdiv_wide {a b : Int} (h : 0 < b) (hb : b.natAbs < 2 ^ 1000) : D.fdiv (.int a) (.int b) = some (.int (a / b)) := by
  have h1 := log2_2p hb
  exact if_pos ⟨h, .inr (by omega)⟩
theorem mul_nat (a b : Nat) (ha : a < 2 ^ 1000) (hb : b < 2 ^ 1000) : D.mul (.int (a : Nat)) (.int (b : Nat)) = some (.int ((a * b : Nat) : Int)) := by
  rw [mul_wide (by rw [Int.natAbs_natCast]; exact ha) (by rw [Int.natAbs_natCast]; exact hb), Int.natCast_mul]
theorem fdiv_nat (a b : Nat) (h : 0 < b) (hb : b < 2 ^ 1000) : D.fdiv (.int (a : Nat)) (.int (b : Nat)) = some (.int ((a / b : Nat) : Int)) := by
  rw [fdiv_wide (by omega) (by rw [Int.natAbs_natCast]; exact hb), Int.natCast_ediv]
theorem mod_nat (a b : Nat) (h : 0 < b) : D.mod (.int (a : Nat)) (.int (b : Nat)) = some (.int ((a % b : Nat) : Int)) := by rw [mod_int (by omega), Int.natCast_emod]
theorem gcd_nat (a b : Nat) : D.gcd [.int (a : Nat), .int (b : Nat)] = some (.int (Nat.gcd a b : Nat)) := by
  show some (PyData.int ((Nat.gcd (a : Int).natAbs (b : Int).natAbs : Nat) : Int)) = _
  rw [Int.natAbs_natCast, Int.natAbs_natCast]
theorem eq_nat (a b : Nat) : D.eq (.int (a : Nat)) (.int (b : Nat)) = some (.bool (decide (a = b))) := by rw [eq_int]; congr 2; simp; omega
theorem ne_nat (a b : Nat) : D.ne (.int (a : Nat)) (.int (b : Nat)) = some (.bool (decide (a ≠ b))) := by rw [ne_int]; congr 2; simp; omega
theorem le_nat (a b : Nat) : D.le (.int (a : Nat)) (.int (b : Nat)) = some (.bool (decide (a ≤ b))) := by rw [le_int]; congr 2; simp
theorem lt_nat (a b : Nat) : D.lt (.int (a : Nat)) (.int (b : Nat)) = some (.bool (decide (a < b))) := by rw [lt_int]; congr 2; simp
theorem measure_wide (a b : Nat) (hb : b < 2 ^ 1000) : f__law_measure [.int a, .int b] = some (.int (Nat.gcd a b), []) := by
  obtain ⟨o, h1, h2⟩ := for_genR (g := gdName 2) (t := b__law_measure_1) (lo := 0) (n := 4000) (e := [.dat (.int a), .dat (.int b), .un])
    (fun i e => ∃ (x y : Nat) (c : Cell), e = [.dat (.int x), .dat (.int y), c] ∧ c.free = true ∧ Nat.gcd x y = Nat.gcd a b ∧ ((i = 0 ∧ y = b) ∨ (1 ≤ i ∧ y < x ∧ x * y * 2 ^ (i - 1) ≤ b * b)))
    (fun i o => ∃ c c', o = .nx [.dat (.int (Nat.gcd a b)), c', c]) ⟨a, b, .un, rfl, rfl, rfl, .inl ⟨rfl, rfl⟩⟩ (by
    rintro i e hi ⟨x, y, c, rfl, hc, hg, hy⟩
    by_cases z : y = 0
    · subst z
      refine ⟨.bk [.dat (.int x), .dat (.int 0), .dat (.int (0 + i))], ?_, .inr (.inl ⟨_, rfl, _, _, by rw [← hg, Nat.gcd_zero_right]⟩)⟩
      simp [b__law_measure_1, hc]
    · have e1 : ((x : Int) % y) = ((x % y : Nat) : Int) := (Int.natCast_emod x y).symm
      have hlt := Nat.mod_lt x (Nat.pos_of_ne_zero z)
      refine ⟨.nx [.dat (.int y), .dat (.int (x % y : Nat)), .dat (.int (0 + i))], ?_, .inl ⟨_, .inl rfl, y, x % y, _, rfl, rfl, by rw [← gcd_rec', hg], .inr ⟨by omega, hlt, ?_⟩⟩⟩
      have z' : ¬ ((y : Int) = 0) := by omega
      simp [b__law_measure_1, hc, z', z, mod_int (show (0 : Int) < y by omega)]
      rcases hy with ⟨rfl, rfl⟩ | ⟨h1, h2, h3⟩
      · simp
        exact Nat.mul_le_mul_left _ (by omega)
      · have h4 : 2 * (x % y) ≤ x := by
          have h5 := Nat.div_add_mod x y
          have h6 : 1 ≤ x / y := Nat.div_pos (by omega) (by omega)
          have h7 := Nat.mul_le_mul_left y h6
          omega
        have h8 : i + 1 - 1 = (i - 1) + 1 := by omega
        rw [h8, Nat.pow_succ]
        refine Nat.le_trans ?_ h3
        have h9 : y * (x % y) * (2 ^ (i - 1) * 2) = y * (2 * (x % y)) * 2 ^ (i - 1) := by ac_rfl
        rw [h9, Nat.mul_comm x y]
        exact Nat.mul_le_mul_right _ (Nat.mul_le_mul_left _ h4))
  have hx := h2
  rcases h2 with ⟨e2, rfl, x, y, c, rfl, _, hg, h⟩ | ⟨i, hi, c, c', rfl⟩
  · have hy : y = 0 := by
      rcases h with ⟨h, _⟩ | ⟨_, h3, h4⟩
      · omega
      · apply Classical.byContradiction
        intro hy
        have h5 : 1 ≤ x * y := Nat.mul_pos (by omega) (by omega)
        have h6 : b * b < 2 ^ 1000 * 2 ^ 1000 := Nat.mul_lt_mul'' hb hb
        rw [← Nat.pow_add] at h6
        have h7 : 2 ^ (4000 - 1) ≤ b * b := Nat.le_trans (by rw [← Nat.one_mul (2 ^ (4000 - 1))]; exact Nat.mul_le_mul_right _ h5) h4
        have h8 : 2 ^ (1000 + 1000) ≤ 2 ^ (4000 - 1) := Nat.pow_le_pow_right (by omega) (by omega)
        omega
    subst hy
    rw [Nat.gcd_zero_right] at hg
    subst hg
    simp [f__law_measure, r1n (b := 4000) (n := 4000) (by omega) (by omega) rfl, h1]
  · simp [f__law_measure, r1n (b := 4000) (n := 4000) (by omega) (by omega) rfl, h1]
end CM

namespace CM
open PySem HD L2
/-! the other way to draw -/
theorem drawB_nat (ds : List Int) (hds : ds ≠ []) (k m : Nat) (h : 0 < m) : ∃ x : Nat, x < m ∧ f__law_drawB [bx ds k, .int (m : Nat)] = some (.int (x : Nat), [bx ds (k + 1)]) := by
  have e1 : ∀ x : D, D.ix (.list [x, .int (k : Int)]) (.int 1) = some (.int k) := fun x => ix_list (i := 1) rfl
  have e2 : ∀ x : D, D.ix (.list [x, .int ((k : Int) + 1)]) (.int 1) = some (.int (k + 1)) := fun x => ix_list (i := 1) rfl
  have e3 : ∀ x y : D, D.ix (.list [x, y]) (.int 0) = some x := fun x y => ix_list (i := 0) rfl
  have e4 : ∀ x y v : D, D.setIx (.list [x, y]) (.int 1) v = some (.list [x, v]) := fun x y v => setIx_I (i := 1) (by simp)
  have m1 : D.mul (.int (k + 1)) (.int 7) = some (.int ((k + 1) * 7)) := mul_int (by omega)
  have m2 : D.mul (.int (k + 1)) (.int 31) = some (.int ((k + 1) * 31)) := mul_int (by omega)
  have hm : (0 : Int) < (m : Int) := by omega
  have fin : ∀ z : Int, ∃ x : Nat, x < m ∧ z % (m : Int) = (x : Int) := by
    intro z
    have h1 := Int.emod_nonneg z (b := (m : Int)) (by omega)
    have h2 := Int.emod_lt_of_pos z hm
    exact ⟨(z % m).toNat, by omega, by omega⟩
  by_cases hk : ds.length ≤ k
  · have hl : 0 < ds.length := List.length_pos_iff.mpr hds
    have hl' : (0 : Int) < (ds.length : Int) := by omega
    have h3 : (ds.length : Int) < k + 1 := by omega
    have g1 := Int.emod_nonneg (((k : Int) + 1) * 31) (b := (ds.length : Int)) (by omega)
    have g2 := Int.emod_lt_of_pos (((k : Int) + 1) * 31) hl'
    obtain ⟨j, hj⟩ : ∃ j : Nat, (((k : Int) + 1) * 31) % (ds.length : Int) = (j : Int) := Int.eq_ofNat_of_zero_le g1
    have hjl : j < ds.length := by omega
    have hx : D.ix (IL ds) (.int (j : Int)) = some (.int ds[j]) := ix_list (get_map (List.getElem?_eq_getElem hjl))
    have m3 : D.mod (.int (((k : Int) + 1) * 31)) (.int (ds.length : Int)) = some (.int (j : Int)) := by rw [mod_int hl', hj]
    obtain ⟨x, x1, x2⟩ := fin (ds[j] + ((k : Int) + 1) * 7 + 3)
    refine ⟨x, x1, ?_⟩
    rw [← x2]
    simp [f__law_drawB, bx, e1, e2, e3, e4, h3, m1, m2, m3, hx, mod_int hm]
  · have h3 : ¬ (ds.length : Int) < k + 1 := by omega
    have h5 : k < ds.length := by omega
    have hx : D.ix (IL ds) (.int (k : Int)) = some (.int ds[k]) := ix_list (get_map (List.getElem?_eq_getElem h5))
    obtain ⟨x, x1, x2⟩ := fin ds[k]
    refine ⟨x, x1, ?_⟩
    rw [← x2]
    simp [f__law_drawB, bx, e1, e2, e3, e4, h3, m1, mod_int hm, hx, Int.add_sub_cancel]
theorem pickB_is (W : List D → Option (D × List D)) (b b1 : D) (row : List D) (x j n : Int) (d : D) (h1 : W [b, .int 1000] = some (.int x, [b1])) (hl : D.len [.list row] = some (.int n)) (hm : D.mod (.int x) (.int n) = some (.int j)) (hd : D.ix (.list row) (.int j) = some d) : dFn 2 [true, false]
  ((dRet (dBin D.ix (dVar 1) (dBin D.mod (dCB D.int1 (dA1 (dCall [true, false] W (dA1 (dVar 0) (dA1 (dC (.int 1000)) dA0))) dA0)) (dCB D.len (dA1 (dVar 1) dA0)))))) [b, .list row] = some (d, [b1]) := by
  generalize D.len = LN at *
  generalize D.mod = MO at *
  generalize D.ix = IX at *
  simp [h1, hl, hm, hd]
theorem pickB_mem (ds : List Int) (hds : ds ≠ []) (k : Nat) {row : List D} (h : row ≠ []) : ∃ d, d ∈ row ∧ f__law_pickB [bx ds k, .list row] = some (d, [bx ds (k + 1)]) := by
  obtain ⟨x, _, e⟩ := drawB_nat ds hds k 1000 (by omega)
  have hl : 0 < row.length := List.length_pos_iff.mpr h
  have hj := Nat.mod_lt x hl
  exact ⟨row[x % row.length], List.getElem_mem hj, pickB_is f__law_drawB _ _ row _ _ _ _ e (len_list row) (mod_nat x row.length hl) (ix_list (List.getElem?_eq_getElem hj))⟩
theorem pickB_nat (ds : List Int) (hds : ds ≠ []) (k : Nat) (row : List Nat) (h : row ≠ []) : ∃ x, x ∈ row ∧ f__law_pickB [bx ds k, .list (nD row)] = some (.int (x : Nat), [bx ds (k + 1)]) := by
  have hne : nD row ≠ [] := by
    cases row with
    | nil => exact (h rfl).elim
    | cons x r => intro e; cases e
  obtain ⟨d, hd, hp⟩ := pickB_mem ds hds k hne
  rw [CM.nD, List.mem_map] at hd
  obtain ⟨v, hv, rfl⟩ := hd
  rw [zl, List.mem_map] at hv
  obtain ⟨x, hx, rfl⟩ := hv
  exact ⟨x, hx, hp⟩
/-! the row in order -/
def srt (l : List Nat) : List Nat := (sortI (zl l)).map Int.toNat
theorem sortI_pm : ∀ l : List Int, (sortI l).Perm l
  | [] => .refl _
  | x :: r => (insI_perm x (sortI r)).trans ((sortI_pm r).cons x)
theorem zl_toNat (l : List Nat) : (zl l).map Int.toNat = l := by
  induction l with
  | nil => rfl
  | cons x l ih => simp only [zl, List.map_cons] at ih ⊢; rw [ih]; simp
theorem srt_perm (l : List Nat) : (srt l).Perm l := by
  have h := (sortI_pm (zl l)).map Int.toNat
  rw [zl_toNat] at h
  exact h
theorem zl_srt (l : List Nat) : zl (srt l) = sortI (zl l) := by
  have hn : ∀ x ∈ sortI (zl l), 0 ≤ x := by
    intro x hx
    have := (sortI_pm (zl l)).mem_iff.mp hx
    rw [zl, List.mem_map] at this
    obtain ⟨n, _, rfl⟩ := this
    omega
  unfold zl srt
  rw [List.map_map]
  have : ∀ (l : List Int), (∀ x ∈ l, 0 ≤ x) → l.map ((fun n : Nat => (n : Int)) ∘ Int.toNat) = l := by
    intro l
    induction l with
    | nil => intro _; rfl
    | cons x l ih =>
      intro h
      rw [List.map_cons, ih fun y hy => h y (List.mem_cons_of_mem _ hy)]
      have := h x (by simp)
      simp only [Function.comp]
      rw [Int.toNat_of_nonneg this]
  exact this _ hn
theorem sorted_nD (l : List Nat) : D.sorted [.list (nD l)] = some (.list (nD (srt l))) := by
  show (ints? (nD l)).map (fun ns => PyData.list ((sortI ns).map .int)) = _
  rw [ints_nD, Option.map_some, ← zl_srt]
  rfl
theorem srt_len (l : List Nat) : (srt l).length = l.length := (srt_perm l).length_eq
theorem srt_sum (l : List Nat) : (srt l).sum = l.sum := (srt_perm l).sum_nat
theorem srt_mem {l : List Nat} {x : Nat} : x ∈ srt l ↔ x ∈ l := (srt_perm l).mem_iff
theorem nD_inj {a b : List Nat} : nD a = nD b ↔ a = b := by
  constructor
  · intro h
    have h1 := congrArg ints? h
    rw [ints_nD, ints_nD, Option.some.injEq] at h1
    have h2 := congrArg (List.map Int.toNat) h1
    rwa [zl_toNat, zl_toNat] at h2
  · rintro rfl; rfl
theorem eq_self {L : List D} (h : SeqAt.shaped (.list L) = true) : D.eq (.list L) (.list L) = some (.bool true) := by
  have : PyData.eqv (.list L) (.list L) = true := SeqAt.eqv_refl _ (SeqAt.canLay_of_shaped h)
  simp [D.eq, D.eqS, D.eqG, h, this]
end CM

set_option exponentiation.threshold 5000
namespace CM
open PySem HD L2
/-! numbers as texts -/
theorem toNat_of (c : Nat) (h : c < 58) : (Char.ofNat c).toNat = c := by
  have key : ∀ c : Nat, c < 58 → (Char.ofNat c).toNat = c := by decide +kernel
  exact key c h
theorem sn_val (cs : List Nat) (h : NumText.AllDigits cs) : sn (NumText.digitsVal cs) = if cs.dropWhile (· == 48) = [] then [48] else cs.dropWhile (· == 48) := by
  rw [sn, NumText.toDigits_all cs h]
  have hs : ∀ c ∈ cs.dropWhile (· == 48), c < 58 := by
    intro c hc
    have := h c (List.IsSuffix.mem hc (List.dropWhile_suffix _))
    omega
  split
  · rename_i he
    rw [if_pos he]; rfl
  · rename_i c r he
    rw [he] at hs
    rw [if_neg (by rw [he]; simp), he, List.map_map]
    have : ∀ l : List Nat, (∀ c ∈ l, c < 58) → l.map (Char.toNat ∘ Char.ofNat) = l := by
      intro l
      induction l with
      | nil => intro _; rfl
      | cons x l ih =>
        intro hl
        rw [List.map_cons, ih fun y hy => hl y (List.mem_cons_of_mem _ hy)]
        show (Char.ofNat x).toNat :: l = _
        rw [toNat_of x (hl x (by simp))]
    exact this _ hs
theorem sn_all (n : Nat) : NumText.AllDigits (sn n) := fun c hc => by
  have := sn_dig n hc
  omega
theorem sn_digitsVal : ∀ (n : Nat), NumText.digitsVal (sn n) = n
  | n => by
    by_cases h : n < 10
    · rw [sn_small h]
      show 0 * 10 + (48 + n - 48) = n
      omega
    · have h10 : 10 ≤ n := by omega
      have ih := sn_digitsVal (n / 10)
      rw [sn_big h10, NumText.digitsVal_snoc, ih]
      omega
termination_by n => n
decreasing_by omega
theorem int_tx {l : List Nat} (h : NumText.AllDigits l) (h1 : l ≠ []) (h2 : l.length ≤ 640) : D.intS [.str (tx l)] = some (.int (NumText.digitsVal l : Nat)) := by
  have e : PySem.intText? (tx l) = some ((NumText.digitsVal l : Nat) : Int) := PySem.intText_digits (x := tx l) h h1 (by rw [tx_len]; omega)
  have e2 : D.intS [.str (tx l)] = (PySem.intText? (tx l)).map .int := if_pos (by rw [tx_len]; exact h2)
  rw [e2, e]
  rfl
theorem sn_ne (n : Nat) : sn n ≠ [] := by
  have := sn_pos n
  intro h
  rw [h] at this
  simp at this
theorem int_sn {n : Nat} (h : n < 1000000000000) : D.intS [.str (tx (sn n))] = some (.int (n : Nat)) := by
  have h1 := sn_len 11 n h
  have h2 := int_tx (sn_all n) (sn_ne n) (by omega)
  rw [sn_digitsVal] at h2
  exact h2
theorem take_drop_lo (l : List Nat) : (l.drop (l.takeWhile (· == 48)).length) = l.dropWhile (· == 48) := by
  conv => lhs; rw [show l = l.takeWhile (· == 48) ++ l.dropWhile (· == 48) by rw [List.takeWhile_append_dropWhile]]
  rw [List.drop_left' (by rw [List.takeWhile_append_dropWhile])]
theorem lstrip_eq (l : List Nat) : Txt.lstripChars (tx l) (tx [48]) = tx (l.dropWhile (· == 48)) := by
  have hg : ∀ c, (tx [48]).cps.contains c = (c == 48) := by
    intro c
    show (#[48] : Array Nat).contains c = _
    simp [Array.contains]
  have hf : (tx [48]).cps.contains = fun c => c == 48 := funext hg
  unfold Txt.lstripChars Txt.stripBy
  rw [hf]
  have lo : stripLo (fun c => c == 48) true (tx l) = (l.takeWhile (· == 48)).length := rfl
  have hi : ∀ k, stripHi (fun c => c == 48) false (tx l) k = l.length := fun k => by show (tx l).length = _; rw [tx_len]
  have td := take_drop_lo l
  split
  · rename_i h
    unfold stripSame at h
    rw [lo, Bool.and_eq_true, beq_iff_eq] at h
    rw [h.1, List.drop_zero] at td
    rw [← td]
  · unfold stripped
    rw [hi, lo]
    show (⟨(l.toArray.extract _ _)⟩ : Str) = _
    rw [List.extract_toArray]
    show tx _ = _
    congr 1
    rw [List.extract_eq_drop_take, td]
    apply List.take_of_length_le
    rw [← td, List.length_drop]
    omega
theorem lstrip0 {l : List Nat} (h : l.length ≤ 1000000) : S.lstrip (.str (tx l)) [.str "0"] = some (.str (tx (l.dropWhile (· == 48)))) := by
  have e : S.lstrip (.str (tx l)) [.str "0"] = some (.str (Txt.lstripChars (tx l) (tx [48]))) := if_pos (by rw [tx_len]; omega)
  rw [e, lstrip_eq]
/-- noughts ahead left out -/
theorem strip_num {cs : List Nat} (h : NumText.AllDigits cs) : (if cs.dropWhile (· == 48) = [] then [48] else cs.dropWhile (· == 48)) = sn (NumText.digitsVal cs) := (sn_val cs h).symm
/-! figures, the last one first -/
def val : List Nat → Nat
  | [] => 0
  | d :: ds => d + 10 * val ds
def cod (ds : List Nat) : List Nat := (ds.map fun d => 48 + d).reverse
def dg (n : Nat) : List Nat := ((sn n).map fun c => c - 48).reverse
theorem val_app : ∀ (xs ys : List Nat), val (xs ++ ys) = val xs + 10 ^ xs.length * val ys
  | [], ys => by simp [val]
  | x :: xs, ys => by
    rw [List.cons_append, val, val, val_app xs ys, List.length_cons, Nat.pow_succ, Nat.mul_add]
    have : 10 * (10 ^ xs.length * val ys) = 10 ^ xs.length * 10 * val ys := by ac_rfl
    omega
theorem val_lt : ∀ ds : List Nat, (∀ d ∈ ds, d < 10) → val ds < 10 ^ ds.length
  | [], _ => by simp [val]
  | d :: ds, h => by
    have ih := val_lt ds fun x hx => h x (List.mem_cons_of_mem _ hx)
    have hd := h d (by simp)
    rw [val, List.length_cons, Nat.pow_succ]
    omega
theorem cod_len (ds : List Nat) : (cod ds).length = ds.length := by simp [cod]
theorem cod_all {ds : List Nat} (h : ∀ d ∈ ds, d < 10) : NumText.AllDigits (cod ds) := by
  intro c hc
  rw [cod, List.mem_reverse, List.mem_map] at hc
  obtain ⟨d, hd, rfl⟩ := hc
  have := h d hd
  omega
theorem cod_val : ∀ ds : List Nat, NumText.digitsVal (cod ds) = val ds
  | [] => rfl
  | d :: ds => by
    have : cod (d :: ds) = cod ds ++ [48 + d] := by simp [cod]
    rw [this, NumText.digitsVal_snoc, cod_val ds, val]
    omega
theorem dg_dig {n d : Nat} (h : d ∈ dg n) : d < 10 := by
  rw [dg, List.mem_reverse, List.mem_map] at h
  obtain ⟨c, hc, rfl⟩ := h
  have := sn_dig n hc
  omega
theorem dg_len (n : Nat) : (dg n).length = (sn n).length := by simp [dg]
theorem cod_dg (n : Nat) : cod (dg n) = sn n := by
  unfold cod dg
  rw [List.map_reverse, List.reverse_reverse, List.map_map]
  have : ∀ l : List Nat, (∀ c ∈ l, 48 ≤ c) → l.map ((fun d => 48 + d) ∘ fun c => c - 48) = l := by
    intro l
    induction l with
    | nil => intro _; rfl
    | cons x l ih =>
      intro h
      have := h x (by simp)
      rw [List.map_cons, ih fun y hy => h y (List.mem_cons_of_mem _ hy)]
      simp only [Function.comp]
      congr 1; omega
  exact this _ fun c hc => (sn_dig n hc).1
theorem val_dg (n : Nat) : val (dg n) = n := by rw [← cod_val, cod_dg, sn_digitsVal]
theorem val_get : ∀ (ds : List Nat) (k d : Nat), (∀ d ∈ ds, d < 10) → ds[k]? = some d → d = val ds / 10 ^ k % 10
  | [], k, d, _, h => by simp at h
  | x :: ds, 0, d, hd, h => by
    simp at h
    subst h
    have := hd x (by simp)
    rw [val, Nat.pow_zero, Nat.div_one]
    omega
  | x :: ds, k + 1, d, hd, h => by
    have hx := hd x (by simp)
    have ih := val_get ds k d (fun y hy => hd y (List.mem_cons_of_mem _ hy)) (by simpa using h)
    rw [val, Nat.pow_succ, Nat.mul_comm (10 ^ k), ← Nat.div_div_eq_div_mul]
    have : (x + 10 * val ds) / 10 = val ds := by omega
    rw [this]
    exact ih
theorem dg_get {n k d : Nat} (h : (dg n)[k]? = some d) : d = n / 10 ^ k % 10 := by
  have := val_get (dg n) k d (fun d hd => dg_dig hd) h
  rwa [val_dg] at this
theorem dg_lt (n : Nat) : n < 10 ^ (dg n).length := by
  have := val_lt (dg n) fun d hd => dg_dig hd
  rwa [val_dg] at this
theorem dg_over {n k : Nat} (h : (dg n).length ≤ k) : n / 10 ^ k % 10 = 0 := by
  have h1 := dg_lt n
  have h2 : 10 ^ (dg n).length ≤ 10 ^ k := Nat.pow_le_pow_right (by omega) h
  rw [Nat.div_eq_of_lt (by omega)]
end CM

set_option exponentiation.threshold 5000
/-! lists of Nat, comprehensions that leave some out, draws, counts in texts -/
namespace CM
open PySem HD L2
theorem gt_dec (a b : Nat) : D.gt (.int (a : Nat)) (.int (b : Nat)) = some (.bool (decide (b < a))) := by
  rw [gt_int]; congr 2; simp
theorem ge_dec (a b : Nat) : D.ge (.int (a : Nat)) (.int (b : Nat)) = some (.bool (decide (b ≤ a))) := by
  rw [ge_int]; congr 2; simp
theorem map_nD (l : List Nat) : (l.map fun j : Nat => (PyData.int (j : Int) : D)) = nD l := by
  rw [CM.nD, zl, List.map_map]
  rfl
theorem len_nD (l : List Nat) : D.len [.list (nD l)] = some (.int ((l.length : Nat) : Int)) := by rw [len_list, nD_len]
theorem ix_nD {l : List Nat} {i x : Nat} (h : l[i]? = some x) : D.ix (.list (nD l)) (.int (i : Nat)) = some (.int (x : Nat)) := ix_list (by
  rw [← map_nD, List.getElem?_map, h]; rfl)
theorem w1k {x : Nat} (h : x ≤ 1000000000000000000000) : x < 2 ^ 1000 := Nat.lt_of_le_of_lt h (by decide +kernel)
/-- a comprehension over a list, each turn alone -/
theorem lc_mpG {α : Type} {g : GD} {el : XD} {vs : List Nat} {e : HD.Env} (f r : α → D) : ∀ (l : List α), (∀ x ∈ l, (g (f x) e).bind (fun e1 => (el e1).bind fun q => (q.1.take q.2).bind fun y => (wipeC vs y.2).map fun e5 => (y.1, e5)) = some (r x, e)) → dLcGo (g) dYes el vs (l.map f) e = some (l.map r, e)
  | [], _ => rfl
  | x :: l, h => by
    have h0 := h x (by simp)
    rw [List.map_cons, dLcGo_cons]
    cases hg : g (f x) e with
    | none => rw [hg] at h0; simp at h0
    | some e1 =>
      rw [hg] at h0
      simp only [Option.bind_some, dYes_, if_true] at h0 ⊢
      cases hq : el e1 with
      | none => rw [hq] at h0; simp at h0
      | some q =>
        rw [hq] at h0
        simp only [Option.bind_some] at h0 ⊢
        cases hy : q.1.take q.2 with
        | none => rw [hy] at h0; simp at h0
        | some y =>
          rw [hy] at h0
          simp only [Option.bind_some] at h0 ⊢
          cases hw : wipeC vs y.2 with
          | none => rw [hw] at h0; simp at h0
          | some e5 =>
            rw [hw] at h0
            simp only [Option.map_some, Option.some.injEq, Prod.mk.injEq] at h0
            obtain ⟨h1, h2⟩ := h0
            subst h2
            rw [Option.bind_some, lc_mpG f r l fun y hy => h y (List.mem_cons_of_mem _ hy), Option.map_some, h1, List.map_cons]
/-- a comprehension that leaves some out -/
theorem lc_flG {α : Type} {g : GD} {c : TD} {el : XD} {vs : List Nat} {e : HD.Env} (f r : α → D) (p : α → Bool) : ∀ (l : List α), (∀ j ∈ l, ∃ e2, (g (f j) e).bind c = some (p j, e2) ∧ (if p j = true then ((el e2).bind fun q => (q.1.take q.2).bind fun y => (wipeC vs y.2).map fun e5 => (y.1, e5)) = some (r j, e) else wipeC vs e2 = some e)) → dLcGo g c el vs (l.map f) e = some ((l.filter p).map r, e)
  | [], _ => rfl
  | k :: l, h => by
    have ih := lc_flG (g := g) (c := c) (el := el) (vs := vs) (e := e) f r p l fun j hj => h j (List.mem_cons_of_mem _ hj)
    obtain ⟨e2, h0, h1⟩ := h k (by simp)
    rw [List.map_cons, dLcGo_cons]
    cases hg : g (f k) e with
    | none => rw [hg] at h0; simp at h0
    | some e1 =>
      rw [hg] at h0
      simp only [Option.bind_some] at h0 ⊢
      rw [h0]
      simp only [Option.bind_some]
      by_cases hp : p k = true
      · rw [if_pos hp] at h1 ⊢
        cases hq : el e2 with
        | none => rw [hq] at h1; simp at h1
        | some q =>
          rw [hq] at h1
          simp only [Option.bind_some] at h1 ⊢
          cases hy : q.1.take q.2 with
          | none => rw [hy] at h1; simp at h1
          | some y =>
            rw [hy] at h1
            simp only [Option.bind_some] at h1 ⊢
            cases hw : wipeC vs y.2 with
            | none => rw [hw] at h1; simp at h1
            | some e5 =>
              rw [hw] at h1
              simp only [Option.map_some, Option.some.injEq, Prod.mk.injEq] at h1
              obtain ⟨h2, h3⟩ := h1
              subst h3
              simp only [Option.bind_some, ih, Option.map_some]
              rw [List.filter_cons_of_pos hp, List.map_cons, h2]
      · rw [if_neg hp] at h1 ⊢
        simp only [h1, Option.bind_some, ih]
        rw [List.filter_cons_of_neg hp]
/-- a comprehension's turn that changes the frame -/
theorem lc_turnG {g : GD} {el : XD} {vs : List Nat} {e e2 e3 : HD.Env} {d x : D} {ds R : List D} (h : (g d e).bind (fun e1 => (el e1).bind fun q => (q.1.take q.2).bind fun y => (wipeC vs y.2).map fun e5 => (y.1, e5)) = some (x, e2)) (h2 : dLcGo g dYes el vs ds e2 = some (R, e3)) : dLcGo g dYes el vs (d :: ds) e = some (x :: R, e3) := by
  rw [dLcGo_cons]
  cases hg : g d e with
  | none => rw [hg] at h; simp at h
  | some e1 =>
    rw [hg] at h
    simp only [Option.bind_some, dYes_, if_true] at h ⊢
    cases hq : el e1 with
    | none => rw [hq] at h; simp at h
    | some q =>
      rw [hq] at h
      simp only [Option.bind_some] at h ⊢
      cases hy : q.1.take q.2 with
      | none => rw [hy] at h; simp at h
      | some y =>
        rw [hy] at h
        simp only [Option.bind_some] at h ⊢
        cases hw : wipeC vs y.2 with
        | none => rw [hw] at h; simp at h
        | some e5 =>
          rw [hw] at h
          simp only [Option.map_some, Option.some.injEq, Prod.mk.injEq] at h
          obtain ⟨rfl, rfl⟩ := h
          rw [Option.bind_some, h2, Option.map_some]

theorem draw_ex (ds : List Int) (k m : Nat) (hm : 0 < m) : ∃ d : Nat, d < m ∧ CM.f__law_draw [bx ds k, .int (m : Nat)] = some (.int (d : Nat), [bx ds (k + 1)]) := by
  obtain ⟨d0, d1⟩ := dr_lt ds k (m := (m : Int)) (by omega)
  refine ⟨(dr ds k m).toNat, by omega, ?_⟩
  rw [Int.toNat_of_nonneg d0]
  exact draw_eq ds k m (by omega)
theorem okI {n : Nat} {i : Int} (h : i.natAbs < 1000000000000000000000) : okD (n + 1) (.int i) = true := by
  simp only [okD, decide_eq_true_eq]
  exact log2_lt h
theorem ok_pair {u c : D} {n : Nat} (h1 : okD (n + 1) u = true) (h2 : okD (n + 1) c = true) : okD (n + 2) (.tuple [u, c]) = true := by
  simp only [okD, Bool.and_eq_true, decide_eq_true_eq, List.all_eq_true, List.length_cons, List.length_nil]
  refine ⟨by omega, fun d hd => ?_⟩
  simp only [List.mem_cons, List.not_mem_nil, or_false] at hd
  rcases hd with rfl | rfl
  · exact h1
  · exact h2
theorem cnt_count (c : Nat) : ∀ l : List Nat, PyProof.Rows.cnt c l = (l.count c : Nat)
  | [] => rfl
  | x :: l => by
    rw [PyProof.Rows.cnt_cons, cnt_count c l, List.count_cons]
    by_cases h : x = c
    · rw [if_pos h, if_pos (by rw [beq_iff_eq]; exact h)]; omega
    · rw [if_neg h, if_neg (by rw [beq_iff_eq]; exact h)]; omega
theorem count_tx (l : List Nat) (c : Nat) : S.count (.str (tx l)) [.str (tx [c])] = some (.int (l.count c : Nat)) := by
  show some (PyData.int (Txt.count (tx l) ⟨#[c]⟩)) = _
  rw [PyProof.Rows.count_is, ← cnt_count]
  rfl
theorem getD_some {l : List Nat} {i : Nat} (h : i < l.length) : l[i]? = some (l.getD i 0) := by
  rw [List.getD, List.getElem?_eq_getElem h]; rfl
theorem pick_nD (ds : List Int) (k : Nat) (l : List Nat) (h : l ≠ []) : ∃ x, x ∈ l ∧ CM.f__law_pick [bx ds k, .list (nD l)] = some (.int (x : Nat), [bx ds (k + 1)]) := by
  have e := map_nD l
  obtain ⟨d, hd, hp⟩ := pick_mem ds k (row := nD l) (by rw [← e]; simpa using h)
  rw [← e] at hd
  obtain ⟨x, hx, rfl⟩ := List.mem_map.mp hd
  exact ⟨x, hx, hp⟩
end CM

set_option exponentiation.threshold 5000
/-! lists of Nat: slices, ==, max; a loop's one turn -/
namespace CM
open PySem HD L2
theorem cat_nD {a b : List Nat} (h : a.length + b.length ≤ 100000) : D.cat (.list (nD a)) (.list (nD b)) = some (.list (nD (a ++ b))) := by
  have : (nD a).length + (nD b).length ≤ 16777216 := by rw [nD_len, nD_len]; omega
  rw [← nD_cat]
  exact if_pos this
theorem ix_neg_nD {l : List Nat} {k x : Nat} (h1 : 1 ≤ k) (h2 : k ≤ l.length) (h : l[l.length - k]? = some x) : D.ix (.list (nD l)) (.int (-(k : Int))) = some (.int (x : Nat)) := ix_neg h1 (by rw [nD_len]; exact h2) (by
  rw [nD_len, ← map_nD, List.getElem?_map, h]; rfl)
theorem nD_drop (l : List Nat) (k : Nat) : (nD l).drop k = nD (l.drop k) := by rw [← map_nD, ← map_nD, List.map_drop]
theorem nD_take (l : List Nat) (k : Nat) : (nD l).take k = nD (l.take k) := by rw [← map_nD, ← map_nD, List.map_take]
theorem cut_ab {α : Type} (l : List α) (a b : Nat) : cutD l (some (a : Int)) (some (b : Int)) = (l.drop a).take (b - a) := by
  simp only [cutD, HT.sIx_nat]
  by_cases h : a ≤ l.length
  · rw [Nat.min_eq_left h, List.take_eq_take_iff, List.length_drop]
    omega
  · rw [Nat.min_eq_right (a := a) (b := l.length) (by omega), List.drop_length, List.drop_eq_nil_of_le (by omega)]
    simp
theorem cut_a {α : Type} (l : List α) (a : Nat) : cutD l (some (a : Int)) none = l.drop a := by
  simp only [cutD, HT.sIx_nat, HT.sIx_none]
  by_cases h : a ≤ l.length
  · rw [Nat.min_eq_left h, List.take_of_length_le (by rw [List.length_drop]; omega)]
  · rw [Nat.min_eq_right (a := a) (b := l.length) (by omega), List.drop_length, List.drop_eq_nil_of_le (by omega)]
    simp
theorem sl_ab (l : List Nat) (a b : Nat) : D.sliceL (.list (nD l)) (some (a : Int)) (some (b : Int)) = some (.list (nD ((l.drop a).take (b - a)))) := by
  show some (PyData.list (cutD (nD l) _ _)) = _
  rw [cut_ab, nD_drop, nD_take]
theorem sl_b (l : List Nat) (b : Nat) : D.sliceL (.list (nD l)) none (some (b : Int)) = some (.list (nD (l.take b))) := by
  show some (PyData.list (cutD (nD l) _ _)) = _
  rw [cut_lo _ (by omega), nD_take, Int.toNat_natCast]
theorem sl_a (l : List Nat) (a : Nat) : D.sliceL (.list (nD l)) (some (a : Int)) none = some (.list (nD (l.drop a))) := by
  show some (PyData.list (cutD (nD l) _ _)) = _
  rw [cut_a, nD_drop]
theorem sIx_negI {n d k : Nat} (h1 : 1 ≤ k) (h : k ≤ n) : HT.sIx n d (some (-(k : Int))) = n - k := by
  show (if (-(k : Int)) < 0 then (-(k : Int) + (n : Int)).toNat else min (-(k : Int)).toNat n) = n - k
  rw [if_pos (by omega)]
  omega
theorem sl_n (l : List Nat) (k : Nat) (h1 : 1 ≤ k) (h : k ≤ l.length) : D.sliceL (.list (nD l)) none (some (-(k : Int))) = some (.list (nD (l.take (l.length - k)))) := by
  show some (PyData.list (cutD (nD l) _ _)) = _
  simp only [cutD, HT.sIx_none]
  rw [sIx_negI h1 (by rw [nD_len]; exact h), List.drop_zero, Nat.sub_zero, nD_take, nD_len]
theorem sl_na (l : List Nat) (k : Nat) (h1 : 1 ≤ k) (h : k ≤ l.length) : D.sliceL (.list (nD l)) (some (-(k : Int))) none = some (.list (nD (l.drop (l.length - k)))) := by
  show some (PyData.list (cutD (nD l) _ _)) = _
  simp only [cutD, HT.sIx_none]
  rw [sIx_negI h1 (by rw [nD_len]; exact h), nD_drop, List.take_of_length_le (by rw [nD_len, nD_len, List.length_drop]; exact Nat.le_refl _), nD_len]
theorem sl_an (l : List Nat) (a k : Nat) (h1 : 1 ≤ k) (h : k ≤ l.length) (ha : a ≤ l.length) : D.sliceL (.list (nD l)) (some (a : Int)) (some (-(k : Int))) = some (.list (nD ((l.drop a).take (l.length - k - a)))) := by
  show some (PyData.list (cutD (nD l) _ _)) = _
  simp only [cutD, HT.sIx_nat]
  rw [sIx_negI h1 (by rw [nD_len]; exact h), nD_len, Nat.min_eq_left ha, nD_drop, nD_take]
theorem eqvAll_nD : ∀ a b : List Nat, PyData.eqvAll (nD a) (nD b) = decide (a = b)
  | [], [] => by simp [nD_nil, PyData.eqvAll]
  | [], y :: b => by simp [nD_nil, nD_cons, PyData.eqvAll]
  | x :: a, [] => by simp [nD_nil, nD_cons, PyData.eqvAll]
  | x :: a, y :: b => by
    rw [nD_cons, nD_cons, PyData.eqvAll, eqvAll_nD a b, eqv_int, Bool.eq_iff_iff, Bool.and_eq_true, decide_eq_true_eq, decide_eq_true_eq, decide_eq_true_eq, List.cons.injEq]
    exact and_congr_left fun _ => by omega
theorem shapedT_nD (l : List Nat) : SeqAt.shaped (.tuple (nD l)) = true := by
  obtain ⟨h1, h2⟩ := canLay_ints (L := nD l) (by
    intro d hd
    rw [← map_nD] at hd
    obtain ⟨x, _, rfl⟩ := List.mem_map.mp hd
    exact ⟨_, rfl⟩)
  simp [SeqAt.shaped, PyData.canLay0, PyData.depth, h1]
  omega
theorem ne_tup (a b : List Nat) : D.ne (.tuple (nD a)) (.tuple (nD b)) = some (.bool (!decide (a = b))) := by
  simp [D.ne, D.neS, D.neG, shapedT_nD, PyData.eqv, eqvAll_nD]
theorem ne_lst (a b : List Nat) : D.ne (.list (nD a)) (.list (nD b)) = some (.bool (!decide (a = b))) := by
  simp [D.ne, D.neS, D.neG, shaped_nD, PyData.eqv, eqvAll_nD]
theorem eq_lst (a b : List Nat) : D.eq (.list (nD a)) (.list (nD b)) = some (.bool (decide (a = b))) := by
  simp [D.eq, D.eqS, D.eqG, shaped_nD, PyData.eqv, eqvAll_nD]
theorem for_step {g : GD} {t : SD} {d : D} {ds : List D} {e e2 : HD.Env} (h : (g d e).bind t = some (.nx e2)) : dForGo g t (d :: ds) e = dForGo g t ds e2 := by
  rw [dForGo_cons]
  cases hg : g d e with
  | none => rw [hg] at h; cases h
  | some e1 =>
    rw [hg, Option.bind_some] at h
    rw [Option.bind_some, h, Option.bind_some, forK_nx]
theorem for_stop {g : GD} {t : SD} {d z : D} {ds : List D} {e e2 : HD.Env} (h : (g d e).bind t = some (.rt z e2)) : dForGo g t (d :: ds) e = some (.rt z e2) := by
  rw [dForGo_cons]
  cases hg : g d e with
  | none => rw [hg] at h; cases h
  | some e1 =>
    rw [hg, Option.bind_some] at h
    rw [Option.bind_some, h, Option.bind_some]
    rfl
theorem max1_nD : ∀ l : List Nat, l ≠ [] → ∃ m : Nat, m ∈ l ∧ (∀ x ∈ l, x ≤ m) ∧ D.max1 [.list (nD l)] = some (.int (m : Nat))
  | [], h => (h rfl).elim
  | a :: r, _ => by
    obtain ⟨h1, h2⟩ := foldl_max (zl r) (a : Int)
    obtain ⟨m, hm, e⟩ : ∃ m : Nat, m ∈ a :: r ∧ (m : Int) = (zl r).foldl max (a : Int) := by
      have h1 : (zl r).foldl max (a : Int) ∈ zl (a :: r) := h1
      rw [zl, List.mem_map] at h1
      obtain ⟨m, h3, h4⟩ := h1
      exact ⟨m, h3, h4⟩
    refine ⟨m, hm, fun x hx => ?_, ?_⟩
    · have : (x : Int) ∈ zl (a :: r) := List.mem_map.mpr ⟨x, hx, rfl⟩
      have := h2 _ this
      omega
    · show (ints? (nD (a :: r))).bind (fun ns => if ns.isEmpty = true then none else some (PyData.int (maxL ns))) = _
      rw [ints_nD, e]
      rfl
end CM

namespace K49
/-! lessons that hang together, plainly -/
def sh (L : List (Nat × Nat)) (i j : Nat) : Bool := decide ((L.getD i (0, 0)).1 = (L.getD j (0, 0)).1) || decide ((L.getD i (0, 0)).2 = (L.getD j (0, 0)).2)
theorem sh_symm (L : List (Nat × Nat)) (i j : Nat) : sh L i j = sh L j i := by
  unfold sh
  simp only [eq_comm]
def at_ (R : List Nat) (a : Nat) (x : Nat) : Bool := decide (R.getD x 0 = a)
/-- nobody twice in one period -/
def VT (L : List (Nat × Nat)) (R : List Nat) : Prop := ∀ i j, i < L.length → j < L.length → i ≠ j → R.getD i 0 = R.getD j 0 → sh L i j = false
def ee (s : Nat → Nat → Bool) (A B : Nat → Bool) (c : List Nat) : Nat := ((c.filter B).map fun u => (c.filter A).countP (s u)).sum
theorem sum_le_sum {f g : Nat → Nat} : ∀ (l : List Nat), (∀ x ∈ l, f x ≤ g x) → (l.map f).sum ≤ (l.map g).sum
  | [], _ => Nat.le_refl _
  | x :: l, h => by
    rw [List.map_cons, List.map_cons, List.sum_cons, List.sum_cons]
    exact Nat.add_le_add (h x (by simp)) (sum_le_sum l fun y hy => h y (by simp [hy]))
theorem sum_lt_sum {f g : Nat → Nat} : ∀ (l : List Nat), (∀ x ∈ l, f x ≤ g x) → ∀ u ∈ l, f u < g u → (l.map f).sum < (l.map g).sum
  | [], _, _, h, _ => by cases h
  | x :: l, h, u, hu, hlt => by
    rw [List.map_cons, List.map_cons, List.sum_cons, List.sum_cons]
    rcases List.mem_cons.mp hu with rfl | hu
    · exact Nat.add_lt_add_of_lt_of_le hlt (sum_le_sum l fun y hy => h y (by simp [hy]))
    · exact Nat.add_lt_add_of_le_of_lt (h x (by simp)) (sum_lt_sum l (fun y hy => h y (by simp [hy])) u hu hlt)
theorem ee_add {s : Nat → Nat → Bool} (hs : ∀ i j, s i j = s j i) {A B : Nat → Bool} {c : List Nat} {u v : Nat} (hu : u ∈ c) (huv : s u v = true) (ht : (A v = true ∧ B u = true) ∨ (B v = true ∧ A u = true)) (hd : ∀ x, A x = true → B x = false) :
    ee s A B c + 1 ≤ ee s A B (c ++ [v]) := by
  unfold ee
  rcases ht with ⟨h1, h2⟩ | ⟨h1, h2⟩
  · have hB : B v = false := hd v h1
    have e : (c ++ [v]).filter B = c.filter B := by rw [List.filter_append]; simp [hB]
    have e2 : (c ++ [v]).filter A = c.filter A ++ [v] := by rw [List.filter_append]; simp [h1]
    rw [e, e2]
    refine sum_lt_sum _ (fun x hx => ?_) u (List.mem_filter.mpr ⟨hu, h2⟩) ?_
    · rw [List.countP_append]; omega
    · rw [List.countP_append, List.countP_cons, huv]; simp
  · have hA : A v = false := by
      cases q : A v with
      | false => rfl
      | true => rw [hd v q] at h1; cases h1
    have e : (c ++ [v]).filter B = c.filter B ++ [v] := by rw [List.filter_append]; simp [h1]
    have e2 : (c ++ [v]).filter A = c.filter A := by rw [List.filter_append]; simp [hA]
    rw [e, e2, List.map_append, List.sum_append]
    have : 0 < (c.filter A).countP (s v) := List.countP_pos_iff.mpr ⟨u, List.mem_filter.mpr ⟨hu, h2⟩, by rw [hs]; exact huv⟩
    simp only [List.map_cons, List.map_nil, List.sum_cons, List.sum_nil]
    omega
/-- new ones, each beside an old one -/
theorem ee_adds {s : Nat → Nat → Bool} (hs : ∀ i j, s i j = s j i) {A B : Nat → Bool} {u : Nat} (hd : ∀ x, A x = true → B x = false) : ∀ (N c : List Nat), u ∈ c → (∀ v ∈ N, s u v = true ∧ ((A v = true ∧ B u = true) ∨ (B v = true ∧ A u = true))) → ee s A B c + N.length ≤ ee s A B (c ++ N)
  | [], c, _, _ => by simp
  | v :: N, c, hu, h => by
    have h1 := ee_add (s := s) hs hu (h v (by simp)).1 (h v (by simp)).2 hd
    have h2 := ee_adds hs hd N (c ++ [v]) (by simp [hu]) fun w hw => h w (by simp [hw])
    rw [List.append_assoc, List.singleton_append] at h2
    rw [List.length_cons]
    omega
theorem countP_le_one {p : Nat → Bool} : ∀ {l : List Nat}, l.Pairwise (fun x y => ¬(p x = true ∧ p y = true)) → l.countP p ≤ 1
  | [], _ => Nat.zero_le _
  | x :: l, h => by
    rw [List.pairwise_cons] at h
    rw [List.countP_cons]
    cases q : p x with
    | false => simpa using countP_le_one h.2
    | true =>
      have : l.countP p = 0 := List.countP_eq_zero.mpr fun y hy hp => h.1 y hy ⟨q, hp⟩
      rw [this]; simp
theorem countP_or {p q : Nat → Bool} : ∀ l : List Nat, l.countP (fun x => p x || q x) ≤ l.countP p + l.countP q
  | [] => by simp
  | x :: l => by
    have ih := countP_or (p := p) (q := q) l
    rw [List.countP_cons, List.countP_cons, List.countP_cons]
    cases p x <;> cases q x <;> simp <;> omega
theorem sum_const_le {f : Nat → Nat} {k : Nat} : ∀ (l : List Nat), (∀ x ∈ l, f x ≤ k) → (l.map f).sum ≤ k * l.length
  | [], _ => by simp
  | x :: l, h => by
    rw [List.map_cons, List.sum_cons, List.length_cons, Nat.mul_succ]
    have := sum_const_le l fun y hy => h y (by simp [hy])
    have := h x (by simp)
    omega
theorem ee_le {L : List (Nat × Nat)} {A B : Nat → Bool} {c : List Nat} (hn : c.Nodup) (hA : ∀ x ∈ c, ∀ y ∈ c, x ≠ y → A x = true → A y = true → sh L x y = false) : ee (sh L) A B c ≤ 2 * (c.filter B).length := by
  unfold ee
  refine sum_const_le _ fun u _ => ?_
  have hp : (c.filter A).Pairwise (fun x y => sh L x y = false) := by
    have hn2 : (c.filter A).Nodup := hn.sublist List.filter_sublist
    refine (List.pairwise_iff_forall_sublist.mpr fun {x y} hxy => ?_)
    have hne : x ≠ y := (List.pairwise_iff_forall_sublist.mp hn2) hxy
    have hx : x ∈ c.filter A := hxy.subset (by simp)
    have hy : y ∈ c.filter A := hxy.subset (by simp)
    obtain ⟨hx1, hx2⟩ := List.mem_filter.mp hx
    obtain ⟨hy1, hy2⟩ := List.mem_filter.mp hy
    exact hA x hx1 y hy1 hne hx2 hy2
  have e : (c.filter A).countP (sh L u) ≤ (c.filter A).countP (fun x => decide ((L.getD u (0, 0)).1 = (L.getD x (0, 0)).1)) + (c.filter A).countP (fun x => decide ((L.getD u (0, 0)).2 = (L.getD x (0, 0)).2)) := countP_or _
  have e1 : (c.filter A).countP (fun x => decide ((L.getD u (0, 0)).1 = (L.getD x (0, 0)).1)) ≤ 1 := by
    refine countP_le_one (hp.imp fun {x y} h => ?_)
    rintro ⟨p, q⟩
    have p := of_decide_eq_true p
    have q := of_decide_eq_true q
    unfold sh at h
    rw [← p, ← q] at h
    simp at h
  have e2 : (c.filter A).countP (fun x => decide ((L.getD u (0, 0)).2 = (L.getD x (0, 0)).2)) ≤ 1 := by
    refine countP_le_one (hp.imp fun {x y} h => ?_)
    rintro ⟨p, q⟩
    have p := of_decide_eq_true p
    have q := of_decide_eq_true q
    unfold sh at h
    rw [← p, ← q] at h
    simp at h
  omega
theorem countP_AB {A B : Nat → Bool} (hd : ∀ x, A x = true → B x = false) : ∀ c : List Nat, (∀ x ∈ c, A x = true ∨ B x = true) → c.countP A + c.countP B = c.length
  | [], _ => rfl
  | x :: c, h => by
    have ih := countP_AB hd c fun y hy => h y (by simp [hy])
    rw [List.countP_cons, List.countP_cons, List.length_cons]
    have hx := h x (by simp)
    cases qa : A x with
    | true => rw [hd x qa]; simp; omega
    | false =>
      rw [qa] at hx
      have qb : B x = true := by simpa using hx
      rw [qb]; simp; omega
/-- a chain has at most one more of the one kind -/
theorem chain_bal {L : List (Nat × Nat)} {A B : Nat → Bool} {c : List Nat} (hn : c.Nodup) (hd : ∀ x, A x = true → B x = false) (hAB : ∀ x ∈ c, A x = true ∨ B x = true) (hA : ∀ x ∈ c, ∀ y ∈ c, x ≠ y → A x = true → A y = true → sh L x y = false) (he : c.length ≤ ee (sh L) A B c + 1) : c.countP A ≤ c.countP B + 1 := by
  have h1 := ee_le (B := B) hn hA
  have h2 := countP_AB hd c hAB
  rw [← List.countP_eq_length_filter] at h1
  omega
/-! the chains of two periods -/
structure Chain (L : List (Nat × Nat)) (A B : Nat → Bool) (T c : List Nat) : Prop where
  nd : c.Nodup
  sub : ∀ x ∈ c, x ∈ T
  cl : ∀ x ∈ c, ∀ y ∈ T, sh L x y = true → y ∈ c
  bal : c.countP A ≤ c.countP B + 1
theorem split_count {p : Nat → Bool} {l c : List Nat} (hl : l.Nodup) (hc : c.Nodup) (hs : ∀ x ∈ c, x ∈ l) : l.countP p = c.countP p + (l.filter fun x => !decide (x ∈ c)).countP p := by
  have h1 : (l.filter fun x => decide (x ∈ c)).Perm c := by
    refine (List.perm_ext_iff_of_nodup (hl.sublist List.filter_sublist) hc).mpr fun x => ?_
    rw [List.mem_filter]
    constructor
    · exact fun h => of_decide_eq_true h.2
    · exact fun h => ⟨hs x h, decide_eq_true h⟩
  rw [← h1.countP_eq]
  clear h1 hs hl
  induction l with
  | nil => rfl
  | cons x l ih =>
    rw [List.countP_cons, List.filter_cons, List.filter_cons]
    by_cases q : x ∈ c
    · simp [q, List.countP_cons]; omega
    · simp [q, List.countP_cons]; omega
theorem pos_of_bal {A B : Nat → Bool} : ∀ Cs : List (List Nat), (Cs.map (fun c => c.countP B)).sum < (Cs.map (fun c => c.countP A)).sum → ∃ c ∈ Cs, c.countP B < c.countP A
  | [], h => by cases h
  | c :: Cs, h => by
    rw [List.map_cons, List.map_cons, List.sum_cons, List.sum_cons] at h
    by_cases q : c.countP B < c.countP A
    · exact ⟨c, by simp, q⟩
    · obtain ⟨d, hd, q2⟩ := pos_of_bal (A := A) (B := B) Cs (by omega)
      exact ⟨d, by simp [hd], q2⟩
/-! exchanged along a chain -/
structure Swap (R R' C : List Nat) (a b : Nat) : Prop where
  len : R'.length = R.length
  get : ∀ x, R'.getD x 0 = if x ∈ C then (if R.getD x 0 = a then b else a) else R.getD x 0
theorem swap_vt {L : List (Nat × Nat)} {R R' C T : List Nat} {a b : Nat} (hR : R.length = L.length) (hab : a ≠ b) (hv : VT L R) (hT : ∀ x, x ∈ T ↔ x < R.length ∧ (R.getD x 0 = a ∨ R.getD x 0 = b)) (hc : Chain L (at_ R a) (at_ R b) T C) (w : Swap R R' C a b) : VT L R' := by
  intro i j hi hj hne he
  rw [w.get i, w.get j] at he
  by_cases ci : i ∈ C <;> by_cases cj : j ∈ C
  · rw [if_pos ci, if_pos cj] at he
    refine hv i j hi hj hne ?_
    rcases ((hT i).mp (hc.sub i ci)).2 with q1 | q1 <;> rcases ((hT j).mp (hc.sub j cj)).2 with q2 | q2 <;> rw [q1, q2] at he ⊢
    · rw [if_pos rfl, if_neg (Ne.symm hab)] at he; exact absurd he.symm hab
    · rw [if_pos rfl, if_neg (Ne.symm hab)] at he; exact absurd he hab
  · rw [if_pos ci, if_neg cj] at he
    cases q : sh L i j with
    | false => rfl
    | true =>
      refine absurd (hc.cl i ci j ((hT j).mpr ⟨by omega, ?_⟩) q) cj
      rw [← he]; split <;> simp
  · rw [if_neg ci, if_pos cj] at he
    cases q : sh L i j with
    | false => rfl
    | true =>
      rw [sh_symm] at q
      refine absurd (hc.cl j cj i ((hT i).mpr ⟨by omega, ?_⟩) q) ci
      rw [he]; split <;> simp
  · rw [if_neg ci, if_neg cj] at he
    exact hv i j hi hj hne he
theorem count_at (R : List Nat) (p : Nat) : R.count p = (List.range R.length).countP (at_ R p) := by
  have : R = (List.range R.length).map fun x => R.getD x 0 := by
    apply List.ext_getElem
    · simp
    · intro i h1 h2
      rw [List.getElem_map, List.getElem_range, List.getD_eq_getElem?_getD, List.getElem?_eq_getElem h1]
      rfl
  conv => lhs; rw [this]
  rw [List.count, List.countP_map]
  congr 1
theorem countP_add4 {p q r s : Nat → Bool} : ∀ l : List Nat, (∀ x ∈ l, (p x).toNat + (q x).toNat = (r x).toNat + (s x).toNat) → l.countP p + l.countP q = l.countP r + l.countP s
  | [], _ => rfl
  | x :: l, h => by
    have ih := countP_add4 l fun y hy => h y (by simp [hy])
    have hx := h x (by simp)
    rw [List.countP_cons, List.countP_cons, List.countP_cons, List.countP_cons]
    cases qp : p x <;> cases qq : q x <;> cases qr : r x <;> cases qs : s x <;> simp_all <;> omega
theorem countP_in {A : Nat → Bool} {C : List Nat} {n : Nat} (hn : C.Nodup) (hs : ∀ x ∈ C, x < n) : (List.range n).countP (fun x => decide (x ∈ C) && A x) = C.countP A := by
  rw [split_count (p := A) (l := C) (c := (List.range n).filter fun x => decide (x ∈ C)) hn (List.nodup_range.sublist List.filter_sublist) fun x hx => of_decide_eq_true (List.mem_filter.mp hx).2]
  have e : C.filter (fun x => !decide (x ∈ (List.range n).filter fun x => decide (x ∈ C))) = [] := by
    rw [List.filter_eq_nil_iff]
    intro x hx
    simp [hs x hx, hx]
  rw [e, List.countP_nil, Nat.add_zero, List.countP_filter]
  apply List.countP_congr
  intro x _
  rw [Bool.and_comm]
theorem swap_cnt {R R' C : List Nat} {a b : Nat} (hab : a ≠ b) (hn : C.Nodup) (hC : ∀ x ∈ C, x < R.length ∧ (R.getD x 0 = a ∨ R.getD x 0 = b)) (w : Swap R R' C a b) :
    R'.count a + C.countP (at_ R a) = R.count a + C.countP (at_ R b) ∧ R'.count b + C.countP (at_ R b) = R.count b + C.countP (at_ R a) ∧ ∀ p, p ≠ a → p ≠ b → R'.count p = R.count p := by
  have h0 : ∀ x ∈ C, x < R.length := fun x hx => (hC x hx).1
  refine ⟨?_, ?_, fun p ha hb => ?_⟩
  · rw [count_at, count_at, w.len, ← countP_in (A := at_ R a) hn h0, ← countP_in (A := at_ R b) hn h0]
    refine countP_add4 _ fun x _ => ?_
    unfold at_
    rw [w.get x]
    have hx := fun cx => (hC x cx).2
    generalize R.getD x 0 = v at *
    by_cases cx : x ∈ C
    · rcases hx cx with q | q <;> simp [cx, q, hab, Ne.symm hab]
    · simp [cx]
  · rw [count_at, count_at, w.len, ← countP_in (A := at_ R a) hn h0, ← countP_in (A := at_ R b) hn h0]
    refine countP_add4 _ fun x _ => ?_
    unfold at_
    rw [w.get x]
    have hx := fun cx => (hC x cx).2
    generalize R.getD x 0 = v at *
    by_cases cx : x ∈ C
    · rcases hx cx with q | q <;> simp [cx, q, hab, Ne.symm hab]
    · simp [cx]
  · rw [count_at, count_at, w.len]
    apply List.countP_congr
    intro x _
    unfold at_
    rw [w.get x]
    have hx := fun cx => (hC x cx).2
    generalize R.getD x 0 = v at *
    by_cases cx : x ∈ C
    · rcases hx cx with q | q <;> simp [cx, q, hab, Ne.symm hab, Ne.symm ha, Ne.symm hb]
    · simp [cx]
/-! sums over all periods -/
theorem sum_one {f g : Nat → Nat} {a : Nat} : ∀ l : List Nat, l.Nodup → a ∈ l → (∀ x, x ≠ a → f x = g x) → (l.map f).sum + g a = (l.map g).sum + f a
  | [], _, h, _ => by cases h
  | x :: l, hn, h, he => by
    rw [List.nodup_cons] at hn
    rw [List.map_cons, List.map_cons, List.sum_cons, List.sum_cons]
    by_cases q : x = a
    · subst q
      have : l.map f = l.map g := List.map_congr_left fun y hy => he y fun z => hn.1 (z ▸ hy)
      rw [this]; omega
    · have ha : a ∈ l := by
        rcases List.mem_cons.mp h with z | z
        · exact absurd z.symm q
        · exact z
      have := sum_one l hn.2 ha he
      rw [he x q]; omega
theorem sum_two {f g : Nat → Nat} {a b : Nat} (hab : a ≠ b) (l : List Nat) (hn : l.Nodup) (ha : a ∈ l) (hb : b ∈ l) (he : ∀ x, x ≠ a → x ≠ b → f x = g x) : (l.map f).sum + g a + g b = (l.map g).sum + f a + f b := by
  have h1 := sum_one (f := f) (g := fun x => if x = a then g a else f x) l hn ha fun x hx => by simp [hx]
  have h2 := sum_one (f := fun x => if x = a then g a else f x) (g := g) (a := b) l hn hb fun x hx => by
    by_cases q : x = a
    · simp [q]
    · simp [q, he x q hx]
  rw [if_neg (Ne.symm hab)] at h2
  rw [if_pos rfl] at h1
  omega
def pot (P : Nat) (R : List Nat) : Nat := ((List.range P).map fun p => R.count p * R.count p).sum
theorem sum_cnt {P : Nat} : ∀ {R : List Nat}, (∀ x ∈ R, x < P) → ((List.range P).map fun p => R.count p).sum = R.length
  | [], _ => by
    have : ((List.range P).map fun p => ([] : List Nat).count p) = (List.range P).map fun _ => 0 := List.map_congr_left fun _ _ => by simp
    rw [this]
    induction (List.range P) with
    | nil => rfl
    | cons x l ih => simpa using ih
  | x :: R, h => by
    have ih := sum_cnt (R := R) fun y hy => h y (by simp [hy])
    have := sum_one (f := fun p => (x :: R).count p) (g := fun p => R.count p) (a := x) (List.range P) List.nodup_range (List.mem_range.mpr (h x (by simp))) fun y hy => by
      simp [List.count_cons, Ne.symm hy]
    simp only [List.count_cons_self] at this
    rw [List.length_cons]
    omega
theorem pot_drop {P a b : Nat} {R R' : List Nat} (ha : a < P) (hb : b < P) (hab : a ≠ b) (h1 : R'.count a + 1 = R.count a) (h2 : R'.count b = R.count b + 1) (h3 : R.count b + 2 ≤ R.count a) (h4 : ∀ p, p ≠ a → p ≠ b → R'.count p = R.count p) : pot P R' < pot P R := by
  have := sum_two (f := fun p => R'.count p * R'.count p) (g := fun p => R.count p * R.count p) hab (List.range P) List.nodup_range (List.mem_range.mpr ha) (List.mem_range.mpr hb) fun x hx hy => by simp only [h4 x hx hy]
  unfold pot
  generalize ((List.range P).map fun p => R'.count p * R'.count p).sum = s at *
  generalize ((List.range P).map fun p => R.count p * R.count p).sum = t at *
  simp only [h2] at this
  generalize R.count b = y at *
  generalize R'.count a = z at *
  rw [← h1] at this
  have e1 : (z + 1) * (z + 1) = z * z + 2 * z + 1 := by rw [Nat.mul_add, Nat.add_mul]; omega
  have e2 : (y + 1) * (y + 1) = y * y + 2 * y + 1 := by rw [Nat.mul_add, Nat.add_mul]; omega
  rw [e1, e2] at this
  omega
theorem pot_le {P : Nat} {R : List Nat} (h : ∀ x ∈ R, x < P) : pot P R ≤ R.length * R.length := by
  have e := sum_cnt h
  have : pot P R ≤ ((List.range P).map fun p => R.length * R.count p).sum := sum_le_sum _ fun x _ => Nat.mul_le_mul_right _ List.count_le_length
  have m : ∀ l : List Nat, (l.map fun p => R.length * R.count p).sum = R.length * (l.map fun p => R.count p).sum := by
    intro l
    induction l with
    | nil => simp
    | cons x l ih => rw [List.map_cons, List.map_cons, List.sum_cons, List.sum_cons, ih, Nat.mul_add]
  rw [m, e] at this
  exact this
/-- evenly spread: the most are as few as can be -/
theorem even_max {P k M : Nat} {R : List Nat} (hP : 0 < P) (hR : ∀ x ∈ R, x < P) (hM : ∀ p, p < P → R.count p ≤ M) (hm : ∃ p, p < P ∧ R.count p = M) (hl : ∀ p, p < P → M ≤ R.count p + 1) (hk1 : R.length ≤ k * P) (hk2 : 0 < k → (k - 1) * P < R.length) : M = k := by
  have e := sum_cnt hR
  have u : R.length ≤ M * P := by
    have := sum_const_le (f := fun p => R.count p) (k := M) (List.range P) fun x hx => hM x (List.mem_range.mp hx)
    rw [List.length_range] at this
    omega
  have lo : 0 < M → (M - 1) * P < R.length := by
    intro h0
    obtain ⟨p, hp, hpM⟩ := hm
    have a1 := sum_lt_sum (f := fun _ => M - 1) (g := fun p => R.count p) (List.range P) (fun x hx => by have := hl x (List.mem_range.mp hx); omega) p (List.mem_range.mpr hp) (by show M - 1 < R.count p; omega)
    have a2 : ∀ l : List Nat, (l.map fun _ => M - 1).sum = (M - 1) * l.length := by
      intro l
      induction l with
      | nil => simp
      | cons x l ih => rw [List.map_cons, List.sum_cons, ih, List.length_cons, Nat.mul_succ]; omega
    rw [a2, List.length_range, e] at a1
    exact a1
  rcases Nat.lt_trichotomy M k with h | h | h
  · have := hk2 (by omega)
    have := Nat.mul_le_mul_right P (show M ≤ k - 1 by omega)
    omega
  · exact h
  · have := lo (by omega)
    have := Nat.mul_le_mul_right P (show k ≤ M - 1 by omega)
    omega
end K49

namespace K49
open PySem HD CM L2
/-! drawn orders, lessons by hand -/
theorem perm_erase {α : Type} : ∀ (l : List α) (j : Nat) (h : j < l.length), (l[j] :: l.eraseIdx j).Perm l
  | x :: l, 0, _ => .refl _
  | x :: l, j + 1, h => by
    have ih := perm_erase l j (by simpa using h)
    show (l[j]'(by simpa using h) :: x :: l.eraseIdx j).Perm (x :: l)
    exact (List.Perm.swap _ _ _).trans (ih.cons x)
theorem pop_at {l : List D} {j : Nat} (hj : j < l.length) (hl : l.length ≤ 100000) : D.popAt (.list l) [.int (j : Nat)] = some (l[j], .list (l.eraseIdx j)) := by
  have e1 : seqIndex? (j : Int) l.length = some j := by unfold seqIndex?; simp; omega
  have e2 : (j : Int).natAbs < 2 ^ 63 := by omega
  have e3 : l[j]? = some l[j] := List.getElem?_eq_getElem hj
  show (if (j : Int).natAbs < 2 ^ 63 then _ else _) = _
  rw [if_pos e2, e1]
  simp [e3]
theorem mx_step (F : List D → Option (D × List D)) (b b2 R x : D) (c : Cell) (l l2 f f2 : List D) (i j : Int) (fc : c.free = true) (h1 : F [b, .int (l.length : Nat)] = some (.int j, [b2])) (h2 : D.popAt (.list l) [.int j] = some (x, .list l2)) (h3 : D.append (.list f) [x] = some (.none, .list f2)) :
    (gdName 2 (.int i) [.io b, .dat R, c, .own (.list l), .own (.list f)]).bind (dDrop (dMut D.append (dSlot 4) (dA1 (dMut D.popAt (dSlot 3) (dA1 (dCall [true, false] F (dA1 (dVar 0) (dA1 (dCB D.len (dA1 (dVar 3) dA0)) dA0))) dA0)) dA0))) = some (.nx [.io b2, .dat R, .dat (.int i), .own (.list l2), .own (.list f2)]) := by
  generalize D.popAt = PA at *
  generalize D.append = AP at *
  simp [h1, h2, h3, fc]
theorem mixed_perm (ds : List Int) (hds : ds ≠ []) (L : List D) (hL : L.length ≤ 100000) (k : Nat) : ∃ L', f__law_mixed [bx ds k, .list L] = some (.list L', [bx ds (k + L.length)]) ∧ L'.Perm L := by
  obtain ⟨e', h1, l, f, c, h2, h3, h4, h5, h6⟩ := for_rng (g := gdName 2) (t := b__law_mixed_1) (lo := 0) (n := L.length) (e := [.io (bx ds k), .dat (.list L), .un, .own (.list L), .own (.list [])])
    (fun i e => ∃ l f c, e = [.io (bx ds (k + i)), .dat (.list L), c, .own (.list l), .own (.list f)] ∧ c.free = true ∧ l.length + i = L.length ∧ f.length = i ∧ (f ++ l).Perm L) ⟨L, [], .un, rfl, rfl, by omega, rfl, .refl _⟩ (by
    rintro i e hi ⟨l, f, c, rfl, hc, hl, hf, pm⟩
    obtain ⟨j, hj, hd⟩ := drawB_nat ds hds (k + i) l.length (by omega)
    have hp := pop_at hj (by omega)
    have ha : D.append (.list f) [l[j]] = some (.none, .list (f ++ [l[j]])) := append_list (by omega)
    refine ⟨_, .inl (mx_step f__law_draw _ _ _ _ _ _ _ _ _ _ _ hc hd hp ha), _, _, _, rfl, rfl, ?_, by simp [hf], ?_⟩
    · rw [List.length_eraseIdx_of_lt hj]; omega
    · rw [List.append_assoc]
      exact (((perm_erase l j hj)).append_left f).trans pm)
  subst h2
  have e0 : l = [] := List.length_eq_zero_iff.mp (by omega)
  rw [e0, List.append_nil] at h6
  refine ⟨f, ?_, h6⟩
  have hr := r1n (b := (L.length : Int)) (n := L.length) (by omega) (by omega) (by omega)
  simp [f__law_mixed, D.list1, hr, h1]
end K49

namespace K49
open PySem HD CM L2
/-! lessons by hand -/
def pl1 : SD := (dSet 2 (dCall [true, false] f__law_draw (dA1 (dVar 0) (dA1 (dC (.int 3)) dA0))))
def pl2 : SD := (dSetN 3 (dLst dA0))
def pl3 : SD := (dFor (dIA range1 (dA1 (dVar 1) dA0)) (gdName 4) b__law_placed_1)
def pl4 : SD := (dRet (dCall [true, false] f__law_mixed (dA1 (dVar 0) (dA1 (dN (dSlN D.sliceL (dCall [true, false] f__law_mixed (dA1 (dVar 0) (dA1 (dVar 3) dA0))) dP0 (dP1 (dC (.int 10))))) dA0))))
theorem pl_is : f__law_placed = dFn 9 [true, false] (dSeq pl1 (dSeq pl2 (dSeq pl3 pl4))) := rfl
def pb1 : SD := (dPar 7 8 (dA1 (dCall [true, false] f__law_mixed (dA1 (dVar 0) (dA1 (dN (dLst (dA1 (dC (.int 0)) (dA1 (dC (.int 1)) (dA1 (dC (.int 2)) (dA1 (dC (.int 3)) dA0)))))) dA0))) (dA1 (dCall [true, false] f__law_mixed (dA1 (dVar 0) (dA1 (dN (dLst (dA1 (dC (.int 0)) (dA1 (dC (.int 1)) (dA1 (dC (.int 2)) (dA1 (dC (.int 3)) dA0)))))) dA0))) dA0)))
def pb2 : SD := (dSet 5 (dBin D.ix (dN (dLst (dA1 (dCall [true, false] f__law_draw (dA1 (dVar 0) (dA1 (dC (.int 5)) dA0))) (dA1 (dIf (dB (dBin D.lt (dVar 4) (dC (.int 2)))) (dC (.int 4)) (dCall [true, false] f__law_draw (dA1 (dVar 0) (dA1 (dC (.int 2)) dA0)))) (dA1 (dCall [true, false] f__law_pick (dA1 (dVar 0) (dA1 (dN (dLst (dA1 (dC (.int 0)) (dA1 (dC (.int 4)) (dA1 (dC (.int 3)) dA0))))) dA0))) dA0))))) (dVar 2)))
def pb3 : SD := (dFor (dIA range1 (dA1 (dVar 5) dA0)) (gdName 6) b__law_placed_2)
theorem pb_is : b__law_placed_1 = (dSeq pb1 (dSeq pb2 pb3)) := rfl
def tri (q : Nat × Nat × Nat) : D := .tuple [.int (q.1 : Nat), .int (q.2.1 : Nat), .int (q.2.2 : Nat)]
def untri : D → Nat × Nat × Nat
  | .tuple [.int a, .int b, .int c] => (a.toNat, b.toNat, c.toNat)
  | _ => (0, 0, 0)
theorem untri_tri (q : Nat × Nat × Nat) : untri (tri q) = q := rfl
theorem perm_of_map {α : Type} {f : α → D} {g : D → α} (hg : ∀ x, g (f x) = x) {L' : List D} {l : List α} (h : L'.Perm (l.map f)) : ∃ l' : List α, L' = l'.map f ∧ l'.Perm l := by
  refine ⟨L'.map g, ?_, ?_⟩
  · rw [List.map_map]
    refine ((List.map_id _).symm.trans (List.map_congr_left fun d hd => ?_))
    obtain ⟨x, _, rfl⟩ := List.mem_map.mp (h.mem_iff.mp hd)
    show f x = f (g (f x))
    rw [hg]
  · have := h.map g
    rw [List.map_map] at this
    have e : l.map (g ∘ f) = l := (List.map_congr_left fun x _ => hg x).trans (List.map_id _)
    rwa [e] at this
def apart (x y : Nat × Nat × Nat) : Prop := x.2.2 = y.2.2 → x.1 ≠ y.1 ∧ x.2.1 ≠ y.2.1
theorem apart_symm {x y : Nat × Nat × Nat} (h : apart x y) : apart y x := fun e => ⟨Ne.symm (h e.symm).1, Ne.symm (h e.symm).2⟩
def unI : D → Nat
  | .int a => a.toNat
  | _ => 0
theorem mixed_nat (ds : List Int) (hds : ds ≠ []) (l : List Nat) (hl : l.length ≤ 100000) (k : Nat) : ∃ l' : List Nat, f__law_mixed [bx ds k, .list (nD l)] = some (.list (nD l'), [bx ds (k + l.length)]) ∧ l'.Perm l := by
  obtain ⟨L', h1, h2⟩ := mixed_perm ds hds (nD l) (by rw [nD_len]; exact hl) k
  rw [← map_nD] at h2
  obtain ⟨l', rfl, h3⟩ := perm_of_map (f := fun j : Nat => (PyData.int (j : Int) : D)) (g := unI) (fun _ => rfl) h2
  rw [map_nD, nD_len] at h1
  exact ⟨l', h1, h3⟩
theorem mixed_tri (ds : List Int) (hds : ds ≠ []) (l : List (Nat × Nat × Nat)) (hl : l.length ≤ 100000) (k : Nat) : ∃ l' : List (Nat × Nat × Nat), f__law_mixed [bx ds k, .list (l.map tri)] = some (.list (l'.map tri), [bx ds (k + l.length)]) ∧ l'.Perm l := by
  obtain ⟨L', h1, h2⟩ := mixed_perm ds hds (l.map tri) (by rw [List.length_map]; exact hl) k
  obtain ⟨l', rfl, h3⟩ := perm_of_map (f := tri) (g := untri) untri_tri h2
  rw [List.length_map] at h1
  exact ⟨l', h1, h3⟩
theorem pl1_s (F : List D → Option (D × List D)) (b b2 P : D) (d : Nat) (h : F [b, .int 3] = some (.int (d : Nat), [b2])) : (dSet 2 (dCall [true, false] F (dA1 (dVar 0) (dA1 (dC (.int 3)) dA0)))) [.io b, .dat P, .un, .un, .un, .un, .un, .un, .un] = some (.nx [.io b2, .dat P, .dat (.int (d : Nat)), .un, .un, .un, .un, .un, .un]) := by
  simp [h]
theorem pl2_s (c0 c1 c2 : Cell) : pl2 [c0, c1, c2, .un, .un, .un, .un, .un, .un] = some (.nx [c0, c1, c2, .own (.list []), .un, .un, .un, .un, .un]) := by
  unfold pl2
  simp
theorem pb1_s (F : List D → Option (D × List D)) (b b2 b3 c0 c1 : D) (o1 o2 o3 o4 o5 o6 o7 o8 : Cell) (h1 : F [b, .list (nD [0, 1, 2, 3])] = some (c0, [b2])) (h2 : F [b2, .list (nD [0, 1, 2, 3])] = some (c1, [b3])) (f7 : o7.free = true) (f8 : o8.free = true) :
    (dPar 7 8 (dA1 (dCall [true, false] F (dA1 (dVar 0) (dA1 (dN (dLst (dA1 (dC (.int 0)) (dA1 (dC (.int 1)) (dA1 (dC (.int 2)) (dA1 (dC (.int 3)) dA0)))))) dA0))) (dA1 (dCall [true, false] F (dA1 (dVar 0) (dA1 (dN (dLst (dA1 (dC (.int 0)) (dA1 (dC (.int 1)) (dA1 (dC (.int 2)) (dA1 (dC (.int 3)) dA0)))))) dA0))) dA0))) [.io b, o1, o2, o3, o4, o5, o6, o7, o8] = some (.nx [.io b3, o1, o2, o3, o4, o5, o6, .dat c0, .dat c1]) := by
  have e : nD [0, 1, 2, 3] = [.int 0, .int 1, .int 2, .int 3] := rfl
  rw [e] at h1 h2
  simp [h1, h2, f7, f8]
theorem ix3 (a b c : D) (kind : Nat) (hk : kind < 3) : D.ix (.list [a, b, c]) (.int (kind : Nat)) = some (if kind = 0 then a else if kind = 1 then b else c) := by
  refine ix_list ?_
  match kind, hk with
  | 0, _ => rfl
  | 1, _ => rfl
  | 2, _ => rfl
theorem pb2_s1 (F G : List D → Option (D × List D)) (b b2 b3 b4 x y z : D) (p kind : Int) (r : D) (o1 o3 o5 o6 o7 o8 : Cell) (f5 : o5.free = true) (hp : ¬ p < 2) (h1 : F [b, .int 5] = some (x, [b2])) (h2 : F [b2, .int 2] = some (y, [b3])) (h3 : G [b3, .list [.int 0, .int 4, .int 3]] = some (z, [b4])) (h4 : D.ix (.list [x, y, z]) (.int kind) = some r) :
    (dSet 5 (dBin D.ix (dN (dLst (dA1 (dCall [true, false] F (dA1 (dVar 0) (dA1 (dC (.int 5)) dA0))) (dA1 (dIf (dB (dBin D.lt (dVar 4) (dC (.int 2)))) (dC (.int 4)) (dCall [true, false] F (dA1 (dVar 0) (dA1 (dC (.int 2)) dA0)))) (dA1 (dCall [true, false] G (dA1 (dVar 0) (dA1 (dN (dLst (dA1 (dC (.int 0)) (dA1 (dC (.int 4)) (dA1 (dC (.int 3)) dA0))))) dA0))) dA0))))) (dVar 2))) [.io b, o1, .dat (.int kind), o3, .dat (.int p), o5, o6, o7, o8] = some (.nx [.io b4, o1, .dat (.int kind), o3, .dat (.int p), .dat r, o6, o7, o8]) := by
  generalize D.ix = IX at *
  simp [h1, h2, h3, h4, hp, f5]
theorem pb2_s2 (F G : List D → Option (D × List D)) (b b2 b3 x z : D) (p kind : Int) (r : D) (o1 o3 o5 o6 o7 o8 : Cell) (f5 : o5.free = true) (hp : p < 2) (h1 : F [b, .int 5] = some (x, [b2])) (h3 : G [b2, .list [.int 0, .int 4, .int 3]] = some (z, [b3])) (h4 : D.ix (.list [x, .int 4, z]) (.int kind) = some r) :
    (dSet 5 (dBin D.ix (dN (dLst (dA1 (dCall [true, false] F (dA1 (dVar 0) (dA1 (dC (.int 5)) dA0))) (dA1 (dIf (dB (dBin D.lt (dVar 4) (dC (.int 2)))) (dC (.int 4)) (dCall [true, false] F (dA1 (dVar 0) (dA1 (dC (.int 2)) dA0)))) (dA1 (dCall [true, false] G (dA1 (dVar 0) (dA1 (dN (dLst (dA1 (dC (.int 0)) (dA1 (dC (.int 4)) (dA1 (dC (.int 3)) dA0))))) dA0))) dA0))))) (dVar 2))) [.io b, o1, .dat (.int kind), o3, .dat (.int p), o5, o6, o7, o8] = some (.nx [.io b3, o1, .dat (.int kind), o3, .dat (.int p), .dat r, o6, o7, o8]) := by
  generalize D.ix = IX at *
  simp [h1, h3, h4, hp, f5]
theorem pb2_ex (ds : List Int) (hds : ds ≠ []) (k p kind : Nat) (hk : kind < 3) (o1 o3 o5 o6 o7 o8 : Cell) (f5 : o5.free = true) : ∃ m k', m ≤ 4 ∧ pb2 [.io (bx ds k), o1, .dat (.int (kind : Nat)), o3, .dat (.int (p : Nat)), o5, o6, o7, o8] = some (.nx [.io (bx ds k'), o1, .dat (.int (kind : Nat)), o3, .dat (.int (p : Nat)), .dat (.int ((m : Nat) : Int)), o6, o7, o8]) := by
  obtain ⟨x, hx, h1⟩ := drawB_nat ds hds k 5 (by omega)
  by_cases hp : (p : Int) < 2
  · obtain ⟨z, hz, h3⟩ := pickB_nat ds hds (k + 1) [0, 4, 3] (by simp)
    have h4 := ix3 (.int (x : Nat)) (.int ((4 : Nat) : Int)) (.int (z : Nat)) kind hk
    refine ⟨if kind = 0 then x else if kind = 1 then 4 else z, k + 1 + 1, ?_, ?_⟩
    · simp at hz
      split
      · omega
      · split <;> omega
    · refine pb2_s2 (F := f__law_draw) (G := f__law_pick) (hp := hp) (f5 := f5) (h1 := h1) (h3 := h3) (h4 := ?_) ..
      refine h4.trans ?_
      split
      · rfl
      · split <;> rfl
  · obtain ⟨y, hy, h2⟩ := drawB_nat ds hds (k + 1) 2 (by omega)
    obtain ⟨z, hz, h3⟩ := pickB_nat ds hds (k + 1 + 1) [0, 4, 3] (by simp)
    have h4 := ix3 (.int (x : Nat)) (.int (y : Nat)) (.int (z : Nat)) kind hk
    refine ⟨if kind = 0 then x else if kind = 1 then y else z, k + 1 + 1 + 1, ?_, ?_⟩
    · simp at hz
      split
      · omega
      · split <;> omega
    · refine pb2_s1 (F := f__law_draw) (G := f__law_pick) (hp := hp) (f5 := f5) (h1 := h1) (h2 := h2) (h3 := h3) (h4 := ?_) ..
      refine h4.trans ?_
      split
      · rfl
      · split <;> rfl
theorem p2_step (o0 o1 o2 o5 c6 : Cell) (p k x y : Int) (T F : List D) (l l2 : List D) (f6 : c6.free = true) (h1 : D.ix (.list T) (.int k) = some (.int x)) (h2 : D.ix (.list F) (.int k) = some (.int y)) (h3 : D.append (.list l) [.tuple [.int x, .int y, .int p]] = some (.none, .list l2)) :
    (gdName 6 (.int k) [o0, o1, o2, .own (.list l), .dat (.int p), o5, c6, .dat (.list T), .dat (.list F)]).bind b__law_placed_2 = some (.nx [o0, o1, o2, .own (.list l2), .dat (.int p), o5, .dat (.int k), .dat (.list T), .dat (.list F)]) := by
  unfold b__law_placed_2
  generalize D.ix = IX at *
  generalize D.append = AP at *
  simp [h1, h2, h3, f6]
theorem pb3_s (B : SD) (m : Nat) (hm : m ≤ 4) (E : HD.Env) (o0 o1 o2 o3 o4 o6 o7 o8 : Cell) (e' : HD.Env) (hE : E = [o0, o1, o2, o3, o4, .dat (.int (m : Nat)), o6, o7, o8]) (h : dForGo (gdName 6) B (rangeD 0 m) E = some (.nx e')) : (dFor (dIA range1 (dA1 (dVar 5) dA0)) (gdName 6) B) E = some (.nx e') := by
  subst hE
  have hr := r1n (b := (m : Int)) (n := m) (by omega) (by omega) (by omega)
  generalize range1 = RA at *
  simp [hr, h]
theorem one_period (t f : List Nat) (p : Nat) : ∀ (m : Nat) (l : List (Nat × Nat × Nat)), t.Perm [0, 1, 2, 3] → f.Perm [0, 1, 2, 3] → m ≤ 4 → l.Pairwise apart → (∀ q ∈ l, q.2.2 < p ∧ q.1 < 4 ∧ q.2.1 < 4) →
    (l ++ (List.range m).map fun k => (t.getD k 0, f.getD k 0, p)).Pairwise apart ∧ ∀ q ∈ l ++ (List.range m).map fun k => (t.getD k 0, f.getD k 0, p), q.2.2 < p + 1 ∧ q.1 < 4 ∧ q.2.1 < 4 := by
  intro m l ht hf hm hl hq
  have ht4 := ht.length_eq
  have hf4 := hf.length_eq
  have nt : t.Nodup := ht.symm.nodup (by decide)
  have nf : f.Nodup := hf.symm.nodup (by decide)
  have inj : ∀ (w : List Nat), w.Nodup → w.length = 4 → ∀ i j, i < 4 → j < 4 → w.getD i 0 = w.getD j 0 → i = j := by
    intro w hw hl i j hi hj e
    rw [List.getD_eq_getElem?_getD, List.getD_eq_getElem?_getD, List.getElem?_eq_getElem (by omega), List.getElem?_eq_getElem (by omega)] at e
    exact (List.getElem_inj hw).mp e
  refine ⟨?_, fun q h => ?_⟩
  · rw [List.pairwise_append]
    refine ⟨hl, ?_, fun x hx y hy e => ?_⟩
    · rw [List.pairwise_map]
      refine List.pairwise_lt_range.imp_of_mem fun {i j} hi hj h _ => ?_
      rw [List.mem_range] at hi hj
      exact ⟨fun e => by have := inj t nt ht4 i j (by omega) (by omega) e; omega, fun e => by have := inj f nf hf4 i j (by omega) (by omega) e; omega⟩
    · obtain ⟨k, _, rfl⟩ := List.mem_map.mp hy
      have := (hq x hx).1
      exact absurd e (by show x.2.2 ≠ p; omega)
  · rcases List.mem_append.mp h with h | h
    · have := hq q h
      exact ⟨by omega, this.2⟩
    · obtain ⟨k, hk, rfl⟩ := List.mem_map.mp h
      rw [List.mem_range] at hk
      refine ⟨Nat.lt_succ_self p, ?_, ?_⟩
      · have := ht.mem_iff.mp (List.mem_of_getElem? (getD_some (show k < t.length by rw [ht4]; show k < 4; omega)))
        simp at this
        show t.getD k 0 < 4
        rw [List.getD_eq_getElem?_getD]; omega
      · have := hf.mem_iff.mp (List.mem_of_getElem? (getD_some (show k < f.length by rw [hf4]; show k < 4; omega)))
        simp at this
        show f.getD k 0 < 4
        rw [List.getD_eq_getElem?_getD]; omega
theorem p2_loop (t f : List Nat) (p : Nat) (ht : t.length = 4) (hf : f.length = 4) (o0 o1 o2 o5 : Cell) : ∀ (m k : Nat) (l : List (Nat × Nat × Nat)) (c6 : Cell), k + m ≤ 4 → l.length + m ≤ 1000 → c6.free = true → ∃ d6 : Cell, d6.free = true ∧ dForGo (gdName 6) b__law_placed_2 (rangeD (k : Nat) m) [o0, o1, o2, .own (.list (l.map tri)), .dat (.int (p : Nat)), o5, c6, .dat (.list (nD t)), .dat (.list (nD f))] = some (.nx [o0, o1, o2, .own (.list ((l ++ (List.range' k m).map fun k => (t.getD k 0, f.getD k 0, p)).map tri)), .dat (.int (p : Nat)), o5, d6, .dat (.list (nD t)), .dat (.list (nD f))])
  | 0, k, l, c6, _, _, f6 => ⟨c6, f6, by rw [range_z, List.range'_zero, List.map_nil, List.append_nil]; rfl⟩
  | m + 1, k, l, c6, h, hl, f6 => by
    have k1 : k < t.length := by omega
    have k2 : k < f.length := by omega
    have k3 : (l.map tri).length < 16777216 := by rw [List.length_map]; omega
    have st := p2_step o0 o1 o2 o5 c6 (p : Nat) (k : Nat) _ _ (nD t) (nD f) (l.map tri) _ f6 (ix_nD (getD_some k1)) (ix_nD (getD_some k2)) (append_list k3)
    obtain ⟨d6, r6, ih⟩ := p2_loop t f p ht hf o0 o1 o2 o5 m (k + 1) (l ++ [(t.getD k 0, f.getD k 0, p)]) (.dat (.int (k : Nat))) (by omega) (by simp; omega) rfl
    refine ⟨d6, r6, ?_⟩
    rw [range_s, List.range'_succ, List.map_cons, show ((k : Nat) : Int) + 1 = ((k + 1 : Nat) : Int) by omega]
    refine (for_step st).trans ?_
    rw [show l.map tri ++ [.tuple [.int (t.getD k 0 : Nat), .int (f.getD k 0 : Nat), .int (p : Nat)]] = (l ++ [(t.getD k 0, f.getD k 0, p)]).map tri by rw [List.map_append]; rfl, ih, List.append_assoc, List.singleton_append]
theorem p1_step (ds : List Int) (hds : ds ≠ []) (k p kind : Nat) (hk : kind < 3) (l : List (Nat × Nat × Nat)) (hl : l.length ≤ 500) (P : D) (c4 o5 o6 o7 o8 : Cell) (f4 : c4.free = true) (f5 : o5.free = true) (f6 : o6.free = true) (f7 : o7.free = true) (f8 : o8.free = true) (hp : l.Pairwise apart) (hq : ∀ q ∈ l, q.2.2 < p ∧ q.1 < 4 ∧ q.2.1 < 4) :
    ∃ (k' : Nat) (l' : List (Nat × Nat × Nat)) (d4 d5 d6 d7 d8 : Cell), (gdName 4 (.int (p : Nat)) [.io (bx ds k), .dat P, .dat (.int (kind : Nat)), .own (.list (l.map tri)), c4, o5, o6, o7, o8]).bind b__law_placed_1 = some (.nx [.io (bx ds k'), .dat P, .dat (.int (kind : Nat)), .own (.list (l'.map tri)), d4, d5, d6, d7, d8]) ∧ Cell.free d4 = true ∧ Cell.free d5 = true ∧ Cell.free d6 = true ∧ Cell.free d7 = true ∧ Cell.free d8 = true ∧ l'.length ≤ l.length + 4 ∧ l'.Pairwise apart ∧ (∀ q ∈ l', q.2.2 < p + 1 ∧ q.1 < 4 ∧ q.2.1 < 4) := by
  obtain ⟨t, h1, pt⟩ := mixed_nat ds hds [0, 1, 2, 3] (by simp) k
  obtain ⟨f, h2, pf⟩ := mixed_nat ds hds [0, 1, 2, 3] (by simp) (k + [0, 1, 2, 3].length)
  have g1 : pb1 [.io (bx ds k), .dat P, .dat (.int (kind : Nat)), .own (.list (l.map tri)), .dat (.int (p : Nat)), o5, o6, o7, o8] = _ := pb1_s (F := f__law_mixed) (h1 := h1) (h2 := h2) (f7 := f7) (f8 := f8) ..
  obtain ⟨m, k', hm, g2⟩ := pb2_ex ds hds (k + [0, 1, 2, 3].length + [0, 1, 2, 3].length) p kind hk (.dat P) (.own (.list (l.map tri))) o5 o6 (.dat (.list (nD t))) (.dat (.list (nD f))) f5
  obtain ⟨d6, r6, q⟩ := p2_loop t f p pt.length_eq pf.length_eq (.io (bx ds k')) (.dat P) (.dat (.int (kind : Nat))) (.dat (.int (m : Nat))) m 0 l o6 (by omega) (by omega) f6
  rw [← List.range_eq_range'] at q
  have g3 := pb3_s b__law_placed_2 m hm _ _ _ _ _ _ _ _ _ _ rfl q
  have op := one_period t f p m l pt pf hm hp hq
  have e0 : gdName 4 (.int (p : Nat)) [.io (bx ds k), .dat P, .dat (.int (kind : Nat)), .own (.list (l.map tri)), c4, o5, o6, o7, o8] = some [.io (bx ds k), .dat P, .dat (.int (kind : Nat)), .own (.list (l.map tri)), .dat (.int (p : Nat)), o5, o6, o7, o8] := by simp [f4]
  refine ⟨k', _, .dat (.int (p : Nat)), .dat (.int (m : Nat)), d6, .dat (.list (nD t)), .dat (.list (nD f)), ?_, rfl, rfl, r6, rfl, rfl, ?_, op.1, op.2⟩
  · rw [e0, Option.bind_some, pb_is, dSeq_nx g1, dSeq_nx g2]
    exact g3
  · rw [List.length_append, List.length_map, List.length_range]; omega
theorem pl3_s (B : SD) (P : Nat) (hP : P ≤ 100) (E : HD.Env) (o0 o2 o3 o4 o5 o6 o7 o8 : Cell) (e' : HD.Env) (hE : E = [o0, .dat (.int (P : Nat)), o2, o3, o4, o5, o6, o7, o8]) (h : dForGo (gdName 4) B (rangeD 0 P) E = some (.nx e')) : (dFor (dIA range1 (dA1 (dVar 1) dA0)) (gdName 4) B) E = some (.nx e') := by
  subst hE
  have hr := r1n (b := (P : Int)) (n := P) (by omega) (by omega) (by omega)
  generalize range1 = RA at *
  simp [hr, h]
theorem pl4_s (F : List D → Option (D × List D)) (b b2 b3 x z : D) (y l : List D) (o1 o2 o4 o5 o6 o7 o8 : Cell) (h1 : F [b, .list l] = some (x, [b2])) (h2 : D.sliceL x none (some 10) = some (.list y)) (h3 : F [b2, .list y] = some (z, [b3])) :
    (dRet (dCall [true, false] F (dA1 (dVar 0) (dA1 (dN (dSlN D.sliceL (dCall [true, false] F (dA1 (dVar 0) (dA1 (dVar 3) dA0))) dP0 (dP1 (dC (.int 10))))) dA0)))) [.io b, o1, o2, .own (.list l), o4, o5, o6, o7, o8] = some (.rt z [.io b3, o1, o2, .dat (.list l), o4, o5, o6, o7, o8]) := by
  generalize D.sliceL = SL at *
  simp [h1, h2, h3]
theorem sl_map {α : Type} (f : α → D) (l : List α) (b : Nat) : D.sliceL (.list (l.map f)) none (some (b : Int)) = some (.list ((l.take b).map f)) := by
  show some (PyData.list (cutD (l.map f) none (some (b : Int)))) = _
  rw [cut_lo _ (by omega), Int.toNat_natCast, List.map_take]
theorem placed_ex (ds : List Int) (hds : ds ≠ []) (k P : Nat) (hP : P ≤ 6) : ∃ (l : List (Nat × Nat × Nat)) (k' : Nat), f__law_placed [bx ds k, .int (P : Nat)] = some (.list (l.map tri), [bx ds k']) ∧ l.length ≤ 10 ∧ l.Pairwise apart ∧ (∀ q ∈ l, q.2.2 < P ∧ q.1 < 4 ∧ q.2.1 < 4) := by
  obtain ⟨kind, hk, h1⟩ := drawB_nat ds hds k 3 (by omega)
  have g1 : pl1 _ = _ := pl1_s f__law_draw _ _ (.int (P : Nat)) _ h1
  have g2 := pl2_s (.io (bx ds (k + 1))) (.dat (.int (P : Nat))) (.dat (.int (kind : Nat)))
  obtain ⟨e', q, k2, l, d4, d5, d6, d7, d8, rfl, f4, f5, f6, f7, f8, hl, hp, hq⟩ := for_rng (g := gdName 4) (t := b__law_placed_1) (lo := 0) (n := P) (e := [.io (bx ds (k + 1)), .dat (.int (P : Nat)), .dat (.int (kind : Nat)), .own (.list []), .un, .un, .un, .un, .un])
    (fun i e => ∃ (k2 : Nat) (l : List (Nat × Nat × Nat)) (d4 d5 d6 d7 d8 : Cell), e = [.io (bx ds k2), .dat (.int (P : Nat)), .dat (.int (kind : Nat)), .own (.list (l.map tri)), d4, d5, d6, d7, d8] ∧ d4.free = true ∧ d5.free = true ∧ d6.free = true ∧ d7.free = true ∧ d8.free = true ∧ l.length ≤ 4 * i ∧ l.Pairwise apart ∧ (∀ q ∈ l, q.2.2 < i ∧ q.1 < 4 ∧ q.2.1 < 4))
    ⟨k + 1, [], .un, .un, .un, .un, .un, rfl, rfl, rfl, rfl, rfl, rfl, by simp, by simp, by simp⟩ (by
      rintro i e hi ⟨k2, l, d4, d5, d6, d7, d8, rfl, f4, f5, f6, f7, f8, hl, hp, hq⟩
      obtain ⟨k', l', z4, z5, z6, z7, z8, g, r4, r5, r6, r7, r8, hl', hp', hq'⟩ := p1_step ds hds k2 i kind hk l (by omega) (.int (P : Nat)) d4 d5 d6 d7 d8 f4 f5 f6 f7 f8 hp hq
      refine ⟨_, .inl (by rw [Int.zero_add]; exact g), k', l', z4, z5, z6, z7, z8, rfl, r4, r5, r6, r7, r8, by omega, hp', hq'⟩)
  have g3 := pl3_s b__law_placed_1 P (by omega) _ _ _ _ _ _ _ _ _ _ rfl q
  obtain ⟨l1, h2, pm1⟩ := mixed_tri ds hds l (by omega) k2
  obtain ⟨l2, h3, pm2⟩ := mixed_tri ds hds (l1.take 10) (by rw [List.length_take]; omega) (k2 + l.length)
  have g4 := pl4_s (F := f__law_mixed) (h1 := h2) (h2 := sl_map tri l1 10) (h3 := h3) (o1 := .dat (.int (P : Nat))) (o2 := .dat (.int (kind : Nat))) (o4 := d4) (o5 := d5) (o6 := d6) (o7 := d7) (o8 := d8)
  refine ⟨l2, k2 + l.length + (l1.take 10).length, ?_, ?_, ?_, ?_⟩
  · rw [pl_is]
    exact dFn_rt rfl rfl ((dSeq_nx g1).trans ((dSeq_nx g2).trans ((dSeq_nx (t := pl3) g3).trans g4))) rfl
  · rw [pm2.length_eq, List.length_take]; omega
  · refine (pm2.pairwise_iff fun {x y} h => apart_symm h).mpr ?_
    exact List.Pairwise.sublist (List.take_sublist _ _) ((pm1.pairwise_iff fun {x y} h => apart_symm h).mpr hp)
  · intro q hq2
    exact hq q (pm1.mem_iff.mp (List.mem_of_mem_take (pm2.mem_iff.mp hq2)))
end K49

namespace K49
open PySem HD CM L2
/-! the chains of two periods -/
def ci1 : SD := (dSetN 6 (dLst (dA1 (dBin D.ix (dVar 4) (dC (.int 0))) dA0)))
def ci2 : SD := (dSet 7 (dC (.int 0)))
def ci3 : SD := (dWhile t_chains_of_2 b_chains_of_2 fuel)
def ci4 : SD := (dDrop (dMut D.append (dSlot 5) (dA1 (dN (dCBN D.sorted (dA1 (dVar 6) dA0))) dA0)))
def ci5 : SD := (dSet 4 (dN (dLc (dI D.lst? (dVar 4)) (gdName 8) (dB (dBin D.notIn (dVar 8) (dVar 6))) (dVar 8) [8])))
theorem ci_is : b_chains_of_1 = (dSeq ci1 (dSeq ci2 (dSeq ci3 (dSeq ci4 ci5)))) := rfl
def cj1 : SD := (dDrop (dMut D.extend (dSlot 6) (dA1 (dN (dLc (dI D.lst? (dVar 4)) (gdName 9) (dAnd (dB (dBin D.notIn (dVar 9) (dVar 6))) (dTr (dCall [false, false, false] f_shares (dA1 (dVar 0) (dA1 (dBin D.ix (dVar 6) (dVar 7)) (dA1 (dVar 9) dA0)))))) (dVar 9) [9])) dA0)))
def cj2 : SD := (dAug 7 D.iadd (dC (.int 1)))
theorem cj_is : b_chains_of_2 = (dSeq cj1 cj2) := rfl
def co1 : SD := (dSet 4 (dN (dLc (dIA range1 (dA1 (dCB D.len (dA1 (dVar 1) dA0)) dA0)) (gdName 8) (dB (dBin D.isIn (dBin D.ix (dVar 1) (dVar 8)) (dTup (dA1 (dVar 2) (dA1 (dVar 3) dA0))))) (dVar 8) [8])))
def co2 : SD := (dSetN 5 (dLst dA0))
def co3 : SD := (dWhile t_chains_of_1 b_chains_of_1 fuel)
def co4 : SD := (dRet (dVar 5))
theorem co_is : f_chains_of = dFn 10 [false, true, false, false] (dSeq co1 (dSeq co2 (dSeq co3 co4))) := rfl
theorem ix_qqD {L : List (Nat × Nat)} {i : Nat} (h : i < L.length) : D.ix (.list (qqD L)) (.int (i : Nat)) = some (.tuple [.int ((L.getD i (0, 0)).1 : Nat), .int ((L.getD i (0, 0)).2 : Nat)]) := by
  refine ix_list ?_
  rw [qqD, List.getElem?_map, List.getElem?_eq_getElem h, List.getD_eq_getElem?_getD, List.getElem?_eq_getElem h]
  rfl
theorem fst_t (a b : D) : D.ix (.tuple [a, b]) (.int 0) = some a := ix_tuple (i := 0) rfl
theorem snd_t (a b : D) : D.ix (.tuple [a, b]) (.int 1) = some b := ix_tuple (i := 1) rfl
theorem shares_s (l p q : D) (i j : Int) (a b c d : Nat) (h1 : D.ix l (.int i) = some p) (h2 : D.ix l (.int j) = some q) (h3 : D.ix p (.int 0) = some (.int (a : Nat))) (h4 : D.ix q (.int 0) = some (.int (c : Nat))) (h5 : D.ix p (.int 1) = some (.int (b : Nat))) (h6 : D.ix q (.int 1) = some (.int (d : Nat))) :
    f_shares [l, .int i, .int j] = some (.bool (decide (a = c) || decide (b = d)), []) := by
  unfold f_shares
  have e1 := eq_nat a c
  have e2 := eq_nat b d
  generalize D.ix = IX at *
  generalize D.eq = EQ at *
  generalize decide (a = c) = v at *
  generalize decide (b = d) = w at *
  cases v <;> simp [h1, h2, h3, h4, h5, h6, e1, e2]
theorem shares_eq (L : List (Nat × Nat)) (i j : Nat) (hi : i < L.length) (hj : j < L.length) : f_shares [.list (qqD L), .int (i : Nat), .int (j : Nat)] = some (.bool (sh L i j), []) :=
  shares_s _ _ _ _ _ _ _ _ _ (ix_qqD hi) (ix_qqD hj) (fst_t _ _) (fst_t _ _) (snd_t _ _) (snd_t _ _)
theorem len_le {l c : List Nat} (hl : l.Nodup) (hc : c.Nodup) (hs : ∀ x ∈ c, x ∈ l) : c.length ≤ l.length := by
  have := split_count (p := fun _ => true) hl hc hs
  simp only [List.countP_true] at this
  omega
/-- what is new beside one of a chain -/
def nx (L : List (Nat × Nat)) (left c : List Nat) (k : Nat) : List Nat := left.filter fun x => !decide (x ∈ c) && sh L (c.getD k 0) x
structure Inv (L : List (Nat × Nat)) (A B : Nat → Bool) (left c : List Nat) (k : Nat) : Prop where
  nd : c.Nodup
  sub : ∀ x ∈ c, x ∈ left
  le : k ≤ c.length
  cl : ∀ i, i < k → ∀ x ∈ left, sh L (c.getD i 0) x = true → x ∈ c
  e : c.length ≤ ee (sh L) A B c + 1
theorem inv_next {L : List (Nat × Nat)} {A B : Nat → Bool} {left c : List Nat} {k : Nat} (hl : left.Nodup) (hd : ∀ x, A x = true → B x = false) (hAB : ∀ x ∈ left, A x = true ∨ B x = true) (hA : ∀ x ∈ left, ∀ y ∈ left, x ≠ y → (A x = true ∧ A y = true ∨ B x = true ∧ B y = true) → sh L x y = false) (h : Inv L A B left c k) (hk : k < c.length) : Inv L A B left (c ++ nx L left c k) (k + 1) where
  nd := by
    rw [List.nodup_append]
    refine ⟨h.nd, hl.sublist List.filter_sublist, fun x hx y hy e => ?_⟩
    have := (List.mem_filter.mp hy).2
    subst e
    simp [hx] at this
  sub := fun x hx => by
    rcases List.mem_append.mp hx with hx | hx
    · exact h.sub x hx
    · exact (List.mem_filter.mp hx).1
  le := by rw [List.length_append]; omega
  cl := fun i hi x hx hs => by
    have e : (c ++ nx L left c k).getD i 0 = c.getD i 0 := by
      rw [List.getD_eq_getElem?_getD, List.getD_eq_getElem?_getD, List.getElem?_append_left (by omega)]
    rw [e] at hs
    rw [List.mem_append]
    rcases Nat.lt_or_ge i k with q | q
    · exact .inl (h.cl i q x hx hs)
    · have : i = k := by omega
      subst this
      by_cases hc : x ∈ c
      · exact .inl hc
      · exact .inr (List.mem_filter.mpr ⟨hx, by simp only [hc, decide_false, Bool.not_false, Bool.true_and]; exact hs⟩)
  e := by
    have hu : c.getD k 0 ∈ c := List.mem_of_getElem? (getD_some hk)
    have := ee_adds (s := sh L) (sh_symm L) hd (nx L left c k) c hu fun v hv => by
      obtain ⟨h1, h2⟩ := List.mem_filter.mp hv
      simp only [Bool.and_eq_true, Bool.not_eq_true', decide_eq_false_iff_not] at h2
      obtain ⟨h2, h3⟩ := h2
      refine ⟨h3, ?_⟩
      have hne : c.getD k 0 ≠ v := fun e => h2 (e ▸ hu)
      have hno := fun q => hA _ (h.sub _ hu) v h1 hne q
      rcases hAB v h1 with a | a <;> rcases hAB _ (h.sub _ hu) with b | b
      · have := hno (.inl ⟨b, a⟩); rw [this] at h3; cases h3
      · exact .inl ⟨a, b⟩
      · exact .inr ⟨a, b⟩
      · have := hno (.inr ⟨b, a⟩); rw [this] at h3; cases h3
    have h2 := h.e
    rw [List.length_append]
    omega
abbrev cjC (F : List D → Option (D × List D)) : TD := (dAnd (dB (dBin D.notIn (dVar 9) (dVar 6))) (dTr (dCall [false, false, false] F (dA1 (dVar 0) (dA1 (dBin D.ix (dVar 6) (dVar 7)) (dA1 (dVar 9) dA0))))))
theorem cjC_1 (F : List D → Option (D × List D)) (l c : D) (j k x : Int) (s : Bool) (o1 o2 o3 o4 o5 o8 : Cell) (h1 : D.notIn (.int j) c = some (.bool true)) (h2 : D.ix c (.int k) = some (.int x)) (h3 : F [l, .int x, .int j] = some (.bool s, [])) :
    (gdName 9 (.int j) [.dat l, o1, o2, o3, o4, o5, .own c, .dat (.int k), o8, .un]).bind (cjC F) = some (s, [.dat l, o1, o2, o3, o4, o5, .own c, .dat (.int k), o8, .dat (.int j)]) := by
  unfold cjC
  generalize D.ix = IX at *
  generalize D.notIn = NI at *
  simp [h1, h2, h3]
theorem cjC_0 (F : List D → Option (D × List D)) (l c : D) (j k : Int) (o1 o2 o3 o4 o5 o8 : Cell) (h1 : D.notIn (.int j) c = some (.bool false)) :
    (gdName 9 (.int j) [.dat l, o1, o2, o3, o4, o5, .own c, .dat (.int k), o8, .un]).bind (cjC F) = some (false, [.dat l, o1, o2, o3, o4, o5, .own c, .dat (.int k), o8, .dat (.int j)]) := by
  unfold cjC
  generalize D.notIn = NI at *
  simp [h1]
theorem cj_lc (L : List (Nat × Nat)) (left c : List Nat) (k : Nat) (hL : ∀ x ∈ left, x < L.length) (hc : ∀ x ∈ c, x < L.length) (hk : k < c.length) (o1 o2 o3 o4 o5 o8 : Cell) :
    dLcGo (gdName 9) (cjC f_shares) (dVar 9) [9] (nD left) [.dat (.list (qqD L)), o1, o2, o3, o4, o5, .own (.list (nD c)), .dat (.int (k : Nat)), o8, .un] = some (nD (nx L left c k), [.dat (.list (qqD L)), o1, o2, o3, o4, o5, .own (.list (nD c)), .dat (.int (k : Nat)), o8, .un]) := by
  have h := lc_nD (c := cjC f_shares) (el := dVar 9) (i := 9) (e := [.dat (.list (qqD L)), o1, o2, o3, o4, o5, .own (.list (nD c)), .dat (.int (k : Nat)), o8, .un]) (fun x => !decide (x ∈ c) && sh L (c.getD k 0) x) (fun j : Nat => .int (j : Nat)) left fun j hj => by
    refine ⟨[.dat (.list (qqD L)), o1, o2, o3, o4, o5, .own (.list (nD c)), .dat (.int (k : Nat)), o8, .dat (.int (j : Nat))], ?_, ?_⟩
    · have e1 := notin_nD j c
      by_cases hin : j ∈ c
      · rw [decide_eq_true hin] at e1 ⊢
        exact cjC_0 f_shares _ _ _ _ _ _ _ _ _ _ e1
      · rw [decide_eq_false hin] at e1 ⊢
        rw [Bool.not_false, Bool.true_and]
        have hx := getD_some hk
        exact cjC_1 f_shares _ _ _ _ _ _ _ _ _ _ _ _ e1 (ix_nD hx) (shares_eq L _ j (hc _ (List.mem_of_getElem? hx)) (hL j hj))
    · split <;> simp
  rw [map_nD] at h
  exact h
theorem cj1_s (F : List D → Option (D × List D)) (l c lf N c2 : List D) (x y : Cell) (o1 o2 o3 o5 k : Cell) (h : dLcGo (gdName 9) (cjC F) (dVar 9) [9] lf [.dat (.list l), o1, o2, o3, .dat (.list lf), o5, .own (.list c), k, .un, .un] = some (N, [.dat (.list l), o1, o2, o3, .dat (.list lf), o5, .own (.list c), k, .un, .un])) (hl : lf.length ≤ 16777216) (h2 : D.extend (.list c) [.list N] = some (.none, .list c2)) :
    (dDrop (dMut D.extend (dSlot 6) (dA1 (dN (dLc (dI D.lst? (dVar 4)) (gdName 9) (dAnd (dB (dBin D.notIn (dVar 9) (dVar 6))) (dTr (dCall [false, false, false] F (dA1 (dVar 0) (dA1 (dBin D.ix (dVar 6) (dVar 7)) (dA1 (dVar 9) dA0)))))) (dVar 9) [9])) dA0))) [.dat (.list l), o1, o2, o3, .dat (.list lf), o5, .own (.list c), k, .un, .un] = some (.nx [.dat (.list l), o1, o2, o3, .dat (.list lf), o5, .own (.list c2), k, .un, .un]) := by
  unfold cjC at h
  generalize D.extend = EX at *
  generalize (dAnd (dB (dBin D.notIn (dVar 9) (dVar 6))) (dTr (dCall [false, false, false] F (dA1 (dVar 0) (dA1 (dBin D.ix (dVar 6) (dVar 7)) (dA1 (dVar 9) dA0)))))) = C at *
  simp [h, hl, h2]
theorem cj2_s (o0 o1 o2 o3 o4 o5 o6 o8 o9 : Cell) (k : Nat) : cj2 [o0, o1, o2, o3, o4, o5, o6, .dat (.int (k : Nat)), o8, o9] = some (.nx [o0, o1, o2, o3, o4, o5, o6, .dat (.int ((k + 1 : Nat) : Int)), o8, o9]) := by
  unfold cj2
  simp
theorem tc2_s (o0 o1 o2 o3 o4 o5 o8 o9 : Cell) (c : List Nat) (k : Nat) : t_chains_of_2 [o0, o1, o2, o3, o4, o5, .own (.list (nD c)), .dat (.int (k : Nat)), o8, o9] = some (decide (k < c.length), [o0, o1, o2, o3, o4, o5, .own (.list (nD c)), .dat (.int (k : Nat)), o8, o9]) := by
  unfold t_chains_of_2
  have e1 := len_nD c
  have e2 := lt_nat k c.length
  generalize D.len = LN at *
  generalize D.lt = LT at *
  simp [e1, e2]
theorem grow_loop (L : List (Nat × Nat)) (A B : Nat → Bool) (left : List Nat) (hlen : left.length ≤ 1000) (hL : ∀ x ∈ left, x < L.length) (hl : left.Nodup) (hd : ∀ x, A x = true → B x = false) (hAB : ∀ x ∈ left, A x = true ∨ B x = true) (hA : ∀ x ∈ left, ∀ y ∈ left, x ≠ y → (A x = true ∧ A y = true ∨ B x = true ∧ B y = true) → sh L x y = false) (o1 o2 o3 o5 : Cell) :
    ∀ (m n k : Nat) (c : List Nat), left.length ≤ k + m → m < n → Inv L A B left c k → ∃ (c' : List Nat) (k' : Nat), dWhile t_chains_of_2 b_chains_of_2 n [.dat (.list (qqD L)), o1, o2, o3, .dat (.list (nD left)), o5, .own (.list (nD c)), .dat (.int (k : Nat)), .un, .un] = some (.nx [.dat (.list (qqD L)), o1, o2, o3, .dat (.list (nD left)), o5, .own (.list (nD c')), .dat (.int (k' : Nat)), .un, .un]) ∧ Inv L A B left c' k' ∧ k' = c'.length ∧ (∀ x ∈ c, x ∈ c')
  | m, 0, k, c, h1, h2, inv => by omega
  | m, n + 1, k, c, h1, h2, inv => by
    have hc := len_le hl inv.nd inv.sub
    have t := tc2_s (.dat (.list (qqD L))) o1 o2 o3 (.dat (.list (nD left))) o5 .un .un c k
    by_cases q : k < c.length
    · rw [decide_eq_true q] at t
      have inv2 := inv_next hl hd hAB hA inv q
      have hc2 := len_le hl inv2.nd inv2.sub
      have s1 := cj_lc L left c k hL (fun x hx => hL x (inv.sub x hx)) q o1 o2 o3 (.dat (.list (nD left))) o5 .un
      have s2 := cj1_s f_shares (qqD L) (nD c) (nD left) _ (nD (c ++ nx L left c k)) .un .un o1 o2 o3 o5 _ s1 (by rw [nD_len]; omega) (by
        rw [List.length_append] at hc2
        show (if _ then _ else none) = _
        rw [nD_len, nD_len, if_pos (by omega), nD_cat])
      have s3 := cj2_s (.dat (.list (qqD L))) o1 o2 o3 (.dat (.list (nD left))) o5 (.own (.list (nD (c ++ nx L left c k)))) .un .un k
      obtain ⟨c', k', w, iv, e, mm⟩ := grow_loop L A B left hlen hL hl hd hAB hA o1 o2 o3 o5 (m - 1) n (k + 1) _ (by omega) (by omega) inv2
      refine ⟨c', k', ?_, iv, e, fun x hx => mm x (by simp [hx])⟩
      rw [while_nx t (by rw [cj_is, dSeq_nx (t := cj1) s2]; exact s3)]
      exact w
    · rw [decide_eq_false q] at t
      exact ⟨c, k, while_stop t, inv, by have := inv.le; omega, fun x hx => hx⟩
theorem getD_mem {c : List Nat} {x : Nat} (h : x ∈ c) : ∃ i, i < c.length ∧ c.getD i 0 = x := by
  obtain ⟨i, hi⟩ := List.getElem?_of_mem h
  refine ⟨i, (List.getElem?_eq_some_iff.mp hi).1, ?_⟩
  rw [List.getD_eq_getElem?_getD, hi]; rfl
/-! the outer walk -/
structure Out_ (L : List (Nat × Nat)) (A B : Nat → Bool) (T left : List Nat) (Cs : List (List Nat)) : Prop where
  nd : left.Nodup
  sub : ∀ x ∈ left, x ∈ T
  cl : ∀ x ∈ left, ∀ y ∈ T, sh L x y = true → y ∈ left
  ch : ∀ C ∈ Cs, Chain L A B T C
  cA : (Cs.map fun C => C.countP A).sum + left.countP A = T.countP A
  cB : (Cs.map fun C => C.countP B).sum + left.countP B = T.countP B
  le : Cs.length + left.length ≤ T.length
theorem out_next {L : List (Nat × Nat)} {A B : Nat → Bool} {T left c : List Nat} {Cs : List (List Nat)} (hT : T.Nodup) (hd : ∀ x, A x = true → B x = false) (hAB : ∀ x ∈ T, A x = true ∨ B x = true) (hA : ∀ x ∈ T, ∀ y ∈ T, x ≠ y → (A x = true ∧ A y = true ∨ B x = true ∧ B y = true) → sh L x y = false)
    (h : Out_ L A B T left Cs) (i : Inv L A B left c c.length) (hne : c ≠ []) : Out_ L A B T (left.filter fun x => !decide (x ∈ c)) (Cs ++ [srt c]) := by
  have pm := srt_perm c
  have sp := fun p => split_count (p := p) h.nd i.nd i.sub
  have clc : ∀ x ∈ c, ∀ y ∈ T, sh L x y = true → y ∈ c := fun x hx y hy hs => by
    have hl := h.cl x (i.sub x hx) y hy hs
    obtain ⟨j, hj, rfl⟩ := getD_mem hx
    exact i.cl j hj y hl hs
  constructor
  · exact h.nd.sublist List.filter_sublist
  · exact fun x hx => h.sub x (List.mem_filter.mp hx).1
  · intro x hx y hy hs
    obtain ⟨h1, h2⟩ := List.mem_filter.mp hx
    refine List.mem_filter.mpr ⟨h.cl x h1 y hy hs, ?_⟩
    by_cases hc : y ∈ c
    · rw [sh_symm] at hs
      have := clc y hc x (h.sub x h1) hs
      simp [this] at h2
    · simp [hc]
  · intro C hC
    rcases List.mem_append.mp hC with hC | hC
    · exact h.ch C hC
    · rw [List.mem_singleton.mp hC]
      refine ⟨pm.symm.nodup i.nd, fun x hx => h.sub x (i.sub x (srt_mem.mp hx)), fun x hx y hy hs => srt_mem.mpr (clc x (srt_mem.mp hx) y hy hs), ?_⟩
      rw [pm.countP_eq, pm.countP_eq]
      refine chain_bal i.nd hd (fun x hx => hAB x (h.sub x (i.sub x hx))) (fun x hx y hy hne h1 h2 => hA x (h.sub x (i.sub x hx)) y (h.sub y (i.sub y hy)) hne (.inl ⟨h1, h2⟩)) i.e
  · rw [List.map_append, List.sum_append]
    have := sp A
    have := h.cA
    simp only [List.map_cons, List.map_nil, List.sum_cons, List.sum_nil, pm.countP_eq]
    omega
  · rw [List.map_append, List.sum_append]
    have := sp B
    have := h.cB
    simp only [List.map_cons, List.map_nil, List.sum_cons, List.sum_nil, pm.countP_eq]
    omega
  · have h1 := sp fun _ => true
    simp only [List.countP_true] at h1
    have := h.le
    have := List.length_pos_iff.mpr hne
    rw [List.length_append, List.length_singleton]
    omega
def ccD (Cs : List (List Nat)) : List D := Cs.map fun C => .list (nD C)
theorem ci1_s (L : List D) (x : D) (o0 o1 o2 o3 o5 o6 o7 o8 o9 : Cell) (f6 : o6.free = true) (h : D.ix (.list L) (.int 0) = some x) : ci1 [o0, o1, o2, o3, .dat (.list L), o5, o6, o7, o8, o9] = some (.nx [o0, o1, o2, o3, .dat (.list L), o5, .own (.list [x]), o7, o8, o9]) := by
  unfold ci1
  generalize D.ix = IX at *
  simp [h, f6]
theorem ci2_s (o0 o1 o2 o3 o4 o5 o6 o7 o8 o9 : Cell) (f7 : o7.free = true) : ci2 [o0, o1, o2, o3, o4, o5, o6, o7, o8, o9] = some (.nx [o0, o1, o2, o3, o4, o5, o6, .dat (.int ((0 : Nat) : Int)), o8, o9]) := by
  unfold ci2
  simp [f7]
theorem ci4_s (c z : D) (f f2 : List D) (o0 o1 o2 o3 o4 o7 o8 o9 : Cell) (h1 : D.sorted [c] = some z) (h2 : D.append (.list f) [z] = some (.none, .list f2)) : ci4 [o0, o1, o2, o3, o4, .own (.list f), .own c, o7, o8, o9] = some (.nx [o0, o1, o2, o3, o4, .own (.list f2), .own c, o7, o8, o9]) := by
  unfold ci4
  generalize D.sorted = SO at *
  generalize D.append = AP at *
  simp [h1, h2]
abbrev ci5C : TD := (dB (dBin D.notIn (dVar 8) (dVar 6)))
theorem ci5_lc (left c : List Nat) (o0 o1 o2 o3 o4 o5 o7 o9 : Cell) : dLcGo (gdName 8) ci5C (dVar 8) [8] (nD left) [o0, o1, o2, o3, o4, o5, .own (.list (nD c)), o7, .un, o9] = some (nD (left.filter fun x => !decide (x ∈ c)), [o0, o1, o2, o3, o4, o5, .own (.list (nD c)), o7, .un, o9]) := by
  have h := lc_nD (c := ci5C) (el := dVar 8) (i := 8) (e := [o0, o1, o2, o3, o4, o5, .own (.list (nD c)), o7, .un, o9]) (fun x => !decide (x ∈ c)) (fun j : Nat => .int (j : Nat)) left fun j hj => by
    refine ⟨[o0, o1, o2, o3, o4, o5, .own (.list (nD c)), o7, .dat (.int (j : Nat)), o9], ?_, ?_⟩
    · have e1 := notin_nD j c
      unfold ci5C
      generalize D.notIn = NI at *
      simp [e1]
    · split <;> simp
  rw [map_nD] at h
  exact h
theorem ci5_s (lf N : List D) (o0 o1 o2 o3 o5 o6 o7 o9 : Cell) (h : dLcGo (gdName 8) ci5C (dVar 8) [8] lf [o0, o1, o2, o3, .dat (.list lf), o5, o6, o7, .un, o9] = some (N, [o0, o1, o2, o3, .dat (.list lf), o5, o6, o7, .un, o9])) (hl : lf.length ≤ 16777216) : ci5 [o0, o1, o2, o3, .dat (.list lf), o5, o6, o7, .un, o9] = some (.nx [o0, o1, o2, o3, .dat (.list N), o5, o6, o7, .un, o9]) := by
  unfold ci5
  unfold ci5C at h
  generalize (dB (dBin D.notIn (dVar 8) (dVar 6))) = C at *
  simp [h, hl]
theorem tc1_s (o0 o1 o2 o3 o5 o6 o7 o8 o9 : Cell) (l : List Nat) : t_chains_of_1 [o0, o1, o2, o3, .dat (.list (nD l)), o5, o6, o7, o8, o9] = some (decide (0 < l.length), [o0, o1, o2, o3, .dat (.list (nD l)), o5, o6, o7, o8, o9]) := by
  unfold t_chains_of_1
  have e1 := len_nD l
  have e2 : D.gt (.int (l.length : Nat)) (.int 0) = _ := gt_dec l.length 0
  generalize D.len = LN at *
  generalize D.gt = GT at *
  simp [e1, e2]
theorem inv_one {L : List (Nat × Nat)} {A B : Nat → Bool} {left : List Nat} {x : Nat} (hx : x ∈ left) : Inv L A B left [x] 0 where
  nd := by simp
  sub := fun y hy => by rw [List.mem_singleton.mp hy]; exact hx
  le := Nat.zero_le _
  cl := fun i hi => by omega
  e := Nat.le_add_left 1 _
theorem ci3_is : ci3 = dWhile t_chains_of_2 b_chains_of_2 fuel := rfl
theorem co3_is : co3 = dWhile t_chains_of_1 b_chains_of_1 fuel := rfl
theorem chains_loop (L : List (Nat × Nat)) (A B : Nat → Bool) (T : List Nat) (hlen : T.length ≤ 1000) (hL : ∀ x ∈ T, x < L.length) (hT : T.Nodup) (hd : ∀ x, A x = true → B x = false) (hAB : ∀ x ∈ T, A x = true ∨ B x = true) (hA : ∀ x ∈ T, ∀ y ∈ T, x ≠ y → (A x = true ∧ A y = true ∨ B x = true ∧ B y = true) → sh L x y = false) (o1 o2 o3 : Cell) :
    ∀ (n : Nat) (left : List Nat) (Cs : List (List Nat)) (c6 c7 : Cell), left.length < n → c6.free = true → c7.free = true → Out_ L A B T left Cs → ∃ (Cs' : List (List Nat)) (d4 d6 d7 : Cell), dWhile t_chains_of_1 b_chains_of_1 n [.dat (.list (qqD L)), o1, o2, o3, .dat (.list (nD left)), .own (.list (ccD Cs)), c6, c7, .un, .un] = some (.nx [.dat (.list (qqD L)), o1, o2, o3, d4, .own (.list (ccD Cs')), d6, d7, .un, .un]) ∧ (∀ C ∈ Cs', Chain L A B T C) ∧ (Cs'.map fun C => C.countP A).sum = T.countP A ∧ (Cs'.map fun C => C.countP B).sum = T.countP B
  | 0, left, Cs, c6, c7, h, _, _, _ => by omega
  | n + 1, left, Cs, c6, c7, h, f6, f7, iv => by
    have t := tc1_s (.dat (.list (qqD L))) o1 o2 o3 (.own (.list (ccD Cs))) c6 c7 .un .un left
    by_cases q : 0 < left.length
    · rw [decide_eq_true q] at t
      have hle := iv.le
      have hx := getD_some q
      have hxm := List.mem_of_getElem? hx
      have s1 := ci1_s (nD left) _ (.dat (.list (qqD L))) o1 o2 o3 (.own (.list (ccD Cs))) c6 c7 .un .un f6 (ix_nD (i := 0) hx)
      have s2 := ci2_s (.dat (.list (qqD L))) o1 o2 o3 (.dat (.list (nD left))) (.own (.list (ccD Cs))) (.own (.list (nD [left.getD 0 0]))) c7 .un .un f7
      obtain ⟨c, k', s3, ivc, e, mm⟩ := grow_loop L A B left (by omega) (fun x hx => hL x (iv.sub x hx)) iv.nd hd (fun x hx => hAB x (iv.sub x hx)) (fun x hx y hy => hA x (iv.sub x hx) y (iv.sub y hy)) o1 o2 o3 (.own (.list (ccD Cs))) left.length fuel 0 [left.getD 0 0] (by omega) (by show _ < 1000000; omega) (inv_one hxm)
      subst e
      have hne : c ≠ [] := fun z => by have := mm _ (List.mem_singleton.mpr rfl); rw [z] at this; cases this
      have s4 := ci4_s (.list (nD c)) _ (ccD Cs) (ccD (Cs ++ [srt c])) (.dat (.list (qqD L))) o1 o2 o3 (.dat (.list (nD left))) (.dat (.int (c.length : Nat))) .un .un (sorted_nD c) (by
        rw [append_list (by rw [ccD, List.length_map]; omega), ccD, ccD, List.map_append]; rfl)
      have s5 := ci5_s (nD left) _ (.dat (.list (qqD L))) o1 o2 o3 (.own (.list (ccD (Cs ++ [srt c])))) (.own (.list (nD c))) (.dat (.int (c.length : Nat))) .un (ci5_lc left c _ _ _ _ _ _ _ _) (by rw [nD_len]; omega)
      have iv2 := out_next hT hd hAB hA iv ivc hne
      have hl2 : (left.filter fun x => !decide (x ∈ c)).length < left.length := by
        have h1 := split_count (p := fun _ => true) iv.nd ivc.nd ivc.sub
        simp only [List.countP_true] at h1
        have := List.length_pos_iff.mpr hne
        omega
      obtain ⟨Cs', d4, d6, d7, w, r⟩ := chains_loop L A B T hlen hL hT hd hAB hA o1 o2 o3 n _ _ (.own (.list (nD c))) (.dat (.int (c.length : Nat))) (by omega) rfl rfl iv2
      refine ⟨Cs', d4, d6, d7, ?_, r⟩
      refine (while_nx t (by
        rw [ci_is]
        exact (dSeq_nx s1).trans ((dSeq_nx s2).trans ((dSeq_nx (t := ci3) s3).trans ((dSeq_nx s4).trans s5))))).trans ?_
      exact w
    · rw [decide_eq_false q] at t
      have e : left = [] := List.length_eq_zero_iff.mp (by omega)
      have a := iv.cA
      have b := iv.cB
      rw [e, List.countP_nil, Nat.add_zero] at a b
      exact ⟨Cs, _, c6, c7, while_stop t, iv.ch, a, b⟩
abbrev co1C : TD := (dB (dBin D.isIn (dBin D.ix (dVar 1) (dVar 8)) (dTup (dA1 (dVar 2) (dA1 (dVar 3) dA0)))))
def TT (R : List Nat) (a b : Nat) : List Nat := (List.range R.length).filter fun x => at_ R a x || at_ R b x
theorem in2 (x a b : Nat) : D.isIn (.int (x : Nat)) (.tuple [.int (a : Nat), .int (b : Nat)]) = some (.bool (decide (x = a) || decide (x = b))) := by
  have e : D.isIn (.int (x : Nat)) (.tuple [.int (a : Nat), .int (b : Nat)]) = D.isIn (.int (x : Nat)) (.list (nD [a, b])) := rfl
  rw [e, in_nD]
  simp
theorem co1C_s (R x a b : D) (v : Bool) (j : Int) (o0 o4 o5 o6 o7 o9 : Cell) (h1 : D.ix R (.int j) = some x) (h2 : D.isIn x (.tuple [a, b]) = some (.bool v)) : (gdName 8 (.int j) [o0, .io R, .dat a, .dat b, o4, o5, o6, o7, .un, o9]).bind co1C = some (v, [o0, .io R, .dat a, .dat b, o4, o5, o6, o7, .dat (.int j), o9]) := by
  unfold co1C
  generalize D.ix = IX at *
  generalize D.isIn = II at *
  simp [h1, h2]
theorem co1_lc (R : List Nat) (a b : Nat) (o0 o4 o5 o6 o7 o9 : Cell) : dLcGo (gdName 8) co1C (dVar 8) [8] (rangeD 0 R.length) [o0, .io (.list (nD R)), .dat (.int (a : Nat)), .dat (.int (b : Nat)), o4, o5, o6, o7, .un, o9] = some (nD (TT R a b), [o0, .io (.list (nD R)), .dat (.int (a : Nat)), .dat (.int (b : Nat)), o4, o5, o6, o7, .un, o9]) := by
  have h := lc_filter0 (c := co1C) (el := dVar 8) (i := 8) (n := R.length) (e := [o0, .io (.list (nD R)), .dat (.int (a : Nat)), .dat (.int (b : Nat)), o4, o5, o6, o7, .un, o9]) (fun x => at_ R a x || at_ R b x) (fun j : Nat => .int (j : Nat)) fun j hj => by
    refine ⟨[o0, .io (.list (nD R)), .dat (.int (a : Nat)), .dat (.int (b : Nat)), o4, o5, o6, o7, .dat (.int (j : Nat)), o9], co1C_s _ _ _ _ _ _ _ _ _ _ _ _ (ix_nD (getD_some hj)) (in2 _ a b), ?_⟩
    split <;> simp
  rw [map_nD] at h
  exact h
theorem co1_s (R : List Nat) (a b : Nat) (hR : R.length ≤ 1000) (o0 o5 o6 o7 o9 : Cell) (N : List D) (h : dLcGo (gdName 8) co1C (dVar 8) [8] (rangeD 0 R.length) [o0, .io (.list (nD R)), .dat (.int (a : Nat)), .dat (.int (b : Nat)), .un, o5, o6, o7, .un, o9] = some (N, [o0, .io (.list (nD R)), .dat (.int (a : Nat)), .dat (.int (b : Nat)), .un, o5, o6, o7, .un, o9])) : co1 [o0, .io (.list (nD R)), .dat (.int (a : Nat)), .dat (.int (b : Nat)), .un, o5, o6, o7, .un, o9] = some (.nx [o0, .io (.list (nD R)), .dat (.int (a : Nat)), .dat (.int (b : Nat)), .dat (.list N), o5, o6, o7, .un, o9]) := by
  unfold co1
  unfold co1C at h
  have hr := r1n (b := (R.length : Int)) (n := R.length) (by omega) (by omega) (by omega)
  have e1 := len_nD R
  have hl : (rangeD 0 R.length).length ≤ 16777216 := by rw [rangeD_len]; omega
  generalize D.len = LN at *
  generalize range1 = RA at *
  generalize rangeD 0 R.length = RD at *
  generalize (dB (dBin D.isIn (dBin D.ix (dVar 1) (dVar 8)) (dTup (dA1 (dVar 2) (dA1 (dVar 3) dA0))))) = C at *
  simp [h, e1, hr, hl]
theorem co2_s (o0 o1 o2 o3 o4 o6 o7 o8 o9 : Cell) : co2 [o0, o1, o2, o3, o4, .un, o6, o7, o8, o9] = some (.nx [o0, o1, o2, o3, o4, .own (.list (ccD [])), o6, o7, o8, o9]) := by
  unfold co2
  simp [ccD]
theorem co4_s (z : D) (o0 o1 o2 o3 o4 o6 o7 o8 o9 : Cell) : co4 [o0, o1, o2, o3, o4, .own z, o6, o7, o8, o9] = some (.rt z [o0, o1, o2, o3, o4, .dat z, o6, o7, o8, o9]) := by
  unfold co4
  simp
theorem mem_TT {R : List Nat} {a b x : Nat} : x ∈ TT R a b ↔ x < R.length ∧ (R.getD x 0 = a ∨ R.getD x 0 = b) := by
  rw [TT, List.mem_filter, List.mem_range]
  simp only [at_, Bool.or_eq_true, decide_eq_true_eq]
theorem chains_eq (L : List (Nat × Nat)) (R : List Nat) (a b : Nat) (hab : a ≠ b) (hR : R.length = L.length) (hlen : L.length ≤ 1000) (hv : VT L R) : ∃ Cs : List (List Nat), f_chains_of [.list (qqD L), .list (nD R), .int (a : Nat), .int (b : Nat)] = some (.list (ccD Cs), [.list (nD R)]) ∧
    (∀ C ∈ Cs, Chain L (at_ R a) (at_ R b) (TT R a b) C) ∧ (Cs.map fun C => C.countP (at_ R a)).sum = R.count a ∧ (Cs.map fun C => C.countP (at_ R b)).sum = R.count b := by
  have hT : (TT R a b).Nodup := List.nodup_range.sublist List.filter_sublist
  have hlT : (TT R a b).length ≤ R.length := by
    have := List.length_filter_le (fun x => at_ R a x || at_ R b x) (List.range R.length)
    rw [List.length_range] at this
    exact this
  have cT : ∀ p : Nat → Bool, (∀ x, p x = true → at_ R a x = true ∨ at_ R b x = true) → (TT R a b).countP p = (List.range R.length).countP p := by
    intro p hp
    rw [TT, List.countP_filter]
    apply List.countP_congr
    intro x _
    constructor
    · intro h; rw [Bool.and_eq_true] at h; exact h.1
    · intro h
      rw [Bool.and_eq_true, Bool.or_eq_true]
      exact ⟨h, hp x h⟩
  have hd : ∀ x, at_ R a x = true → at_ R b x = false := fun x h => by
    unfold at_ at *
    have := of_decide_eq_true h
    exact decide_eq_false fun q => hab (this ▸ q)
  obtain ⟨Cs, d4, d6, d7, w, r1, r2, r3⟩ := chains_loop L (at_ R a) (at_ R b) (TT R a b) (by omega) (fun x hx => by rw [← hR]; exact (mem_TT.mp hx).1) hT hd
    (fun x hx => by
      rcases (mem_TT.mp hx).2 with q | q
      · exact .inl (decide_eq_true q)
      · exact .inr (decide_eq_true q))
    (fun x hx y hy hne h => by
      have h1 := (mem_TT.mp hx).1
      have h2 := (mem_TT.mp hy).1
      refine hv x y (by omega) (by omega) hne ?_
      rcases h with ⟨p, q⟩ | ⟨p, q⟩ <;> rw [of_decide_eq_true p, of_decide_eq_true q])
    (.io (.list (nD R))) (.dat (.int (a : Nat))) (.dat (.int (b : Nat))) fuel (TT R a b) [] .un .un (by show _ < 1000000; omega) rfl rfl
    ⟨hT, fun x hx => hx, fun x hx y hy _ => hy, (fun C hC => by cases hC), (by simp), (by simp), (by simp)⟩
  refine ⟨Cs, ?_, r1, ?_, ?_⟩
  · rw [co_is]
    have s1 := co1_s R a b (by omega) (.dat (.list (qqD L))) .un .un .un .un _ (co1_lc R a b _ _ _ _ _ _)
    have s2 := co2_s (.dat (.list (qqD L))) (.io (.list (nD R))) (.dat (.int (a : Nat))) (.dat (.int (b : Nat))) (.dat (.list (nD (TT R a b)))) .un .un .un .un
    rw [← co3_is] at w
    exact dFn_rt rfl rfl ((dSeq_nx s1).trans ((dSeq_nx s2).trans ((dSeq_nx w).trans (co4_s _ _ _ _ _ _ _ _ _ _)))) rfl
  · rw [r2, cT _ (fun x h => .inl h), count_at]
  · rw [r3, cT _ (fun x h => .inr h), count_at]
end K49

namespace K49
open PySem HD CM L2
/-! evened -/
def bv1 : SD := (dSet 4 (dN (dLc (dIA range1 (dA1 (dVar 2) dA0)) (gdName 9) dYes (dMet isLst L.count (dVar 3) (dA1 (dVar 9) dA0)) [9])))
def bv2 : SD := (dAsg (dTup (dA1 (dMet isLst L.index (dVar 4) (dA1 (dCB D.max1 (dA1 (dVar 4) dA0)) dA0)) (dA1 (dMet isLst L.index (dVar 4) (dA1 (dCB D.min1 (dA1 (dVar 4) dA0)) dA0)) dA0))) (gdTup 2 (gdCons (gdName 6) (gdCons (gdName 7) gdNil))))
def bv3 : SD := (dIfS (dB (dBin D.lt (dBin D.sub (dBin D.ix (dVar 4) (dVar 6)) (dBin D.ix (dVar 4) (dVar 7))) (dC (.int 2)))) (dRetV 3) dNx)
def bv4 : SD := (dFor (dI D.lst? (dCall [false, true, false, false] f_chains_of (dA1 (dVar 0) (dA1 (dVar 3) (dA1 (dVar 6) (dA1 (dVar 7) dA0)))))) (gdName 5) b_evened_2)
theorem bv_is : b_evened_1 = (dSeq bv1 (dSeq bv2 (dSeq bv3 bv4))) := rfl
def be1 : SD := (dSet 8 (dCB D.len (dA1 (dN (dLc (dI D.lst? (dVar 5)) (gdName 10) (dB (dBin D.eq (dBin D.ix (dVar 3) (dVar 10)) (dVar 6))) (dC (.int 1)) [10])) dA0)))
def be2 : SD := (dIfS (dB (dBin D.gt (dBin D.mul (dC (.int 2)) (dVar 8)) (dCB D.len (dA1 (dVar 5) dA0)))) (dSeq (dFor (dI D.lst? (dVar 5)) (gdName 10) b_evened_3) dBrk) dNx)
theorem be_is : b_evened_2 = (dSeq be1 be2) := rfl
theorem min1_nD : ∀ l : List Nat, l ≠ [] → ∃ m : Nat, m ∈ l ∧ (∀ x ∈ l, m ≤ x) ∧ D.min1 [.list (nD l)] = some (.int (m : Nat))
  | [], h => (h rfl).elim
  | a :: r, _ => by
    obtain ⟨h1, h2⟩ := HD.foldl_min (zl r) (a : Int)
    obtain ⟨m, hm, e⟩ : ∃ m : Nat, m ∈ a :: r ∧ (m : Int) = (zl r).foldl min (a : Int) := by
      have h1 : (zl r).foldl min (a : Int) ∈ zl (a :: r) := h1
      rw [zl, List.mem_map] at h1
      obtain ⟨m, h3, h4⟩ := h1
      exact ⟨m, h3, h4⟩
    refine ⟨m, hm, fun x hx => ?_, ?_⟩
    · have : (x : Int) ∈ zl (a :: r) := List.mem_map.mpr ⟨x, hx, rfl⟩
      have := h2 _ this
      omega
    · show (ints? (nD (a :: r))).bind (fun ns => if ns.isEmpty = true then none else some (PyData.int (minL ns))) = _
      rw [ints_nD, e]
      rfl
theorem index_mem {l : List Nat} {x : Nat} (h : x ∈ l) : ∃ j, j < l.length ∧ l.getD j 0 = x ∧ L.index (.list (nD l)) [.int (x : Nat)] = some (.int (j : Nat)) := by
  rw [index_nD]
  have : ∃ j, l.findIdx? (fun y => y == x) = some j := by
    rw [← Option.isSome_iff_exists, List.findIdx?_isSome]
    rw [List.any_eq_true]
    exact ⟨x, h, by simp⟩
  obtain ⟨j, hj⟩ := this
  rw [List.findIdx?_eq_some_iff_getElem] at hj
  obtain ⟨h1, h2, _⟩ := hj
  refine ⟨j, h1, ?_, ?_⟩
  · rw [List.getD_eq_getElem?_getD, List.getElem?_eq_getElem h1]
    simpa using h2
  · have : l.findIdx? (fun y => y == x) = some j := by
      rw [List.findIdx?_eq_some_iff_getElem]
      exact ⟨h1, h2, by assumption⟩
    rw [this]; rfl
def nown (c : Cell) : Prop := c = .un ∨ ∃ d, c = .dat d
theorem nown_free {c : Cell} (h : nown c) : c.free = true := by
  rcases h with rfl | ⟨d, rfl⟩ <;> rfl
theorem nown_un : nown .un := .inl rfl
theorem nown_dat (d : D) : nown (.dat d) := .inr ⟨d, rfl⟩
theorem set_ne {R : List Nat} {x y v : Nat} (h : y ≠ x) : (R.set x v).getD y 0 = R.getD y 0 := by
  rw [List.getD_eq_getElem?_getD, List.getD_eq_getElem?_getD, List.getElem?_set_ne (Ne.symm h)]
theorem set_eq {R : List Nat} {x v : Nat} (h : x < R.length) : (R.set x v).getD x 0 = v := by
  rw [List.getD_eq_getElem?_getD, List.getElem?_set_self h]; rfl
/-! one place exchanged -/
theorem b3_step (R R2 : List D) (x a b : Int) (y : D) (t : Bool) (o0 o1 o2 o4 o5 o8 o9 c10 : Cell) (f10 : c10.free = true) (h1 : D.ix (.list R) (.int x) = some y) (h2 : D.eq y (.int a) = some (.bool t)) (h3 : D.setIx (.list R) (.int x) (if t = true then .int b else .int a) = some (.list R2)) :
    (gdName 10 (.int x) [o0, o1, o2, .own (.list R), o4, o5, .dat (.int a), .dat (.int b), o8, o9, c10]).bind b_evened_3 = some (.nx [o0, o1, o2, .own (.list R2), o4, o5, .dat (.int a), .dat (.int b), o8, o9, .dat (.int x)]) := by
  unfold b_evened_3
  generalize D.ix = IX at *
  generalize D.eq = EQ at *
  generalize D.setIx = SI at *
  cases t
  · rw [if_neg (by decide)] at h3
    simp [h1, h2, h3, f10]
  · rw [if_pos rfl] at h3
    simp [h1, h2, h3, f10]
theorem nD_set (l : List Nat) (i v : Nat) : (nD l).set i (.int (v : Nat)) = nD (l.set i v) := by
  rw [← map_nD, ← map_nD, List.map_set]
theorem b3_loop (a b : Nat) (o0 o1 o2 o4 o5 o8 o9 : Cell) : ∀ (C R : List Nat) (c10 : Cell), nown c10 → C.Nodup → (∀ x ∈ C, x < R.length) → ∃ (R' : List Nat) (d10 : Cell), nown d10 ∧ Swap R R' C a b ∧ dForGo (gdName 10) b_evened_3 (nD C) [o0, o1, o2, .own (.list (nD R)), o4, o5, .dat (.int (a : Nat)), .dat (.int (b : Nat)), o8, o9, c10] = some (.nx [o0, o1, o2, .own (.list (nD R')), o4, o5, .dat (.int (a : Nat)), .dat (.int (b : Nat)), o8, o9, d10])
  | [], R, c10, n10, _, _ => ⟨R, c10, n10, ⟨rfl, fun x => by simp⟩, rfl⟩
  | x :: C, R, c10, n10, hn, hx => by
    rw [List.nodup_cons] at hn
    have hxR := hx x (by simp)
    have st := b3_step (nD R) (nD (R.set x (if R.getD x 0 = a then b else a))) (x : Nat) (a : Nat) (b : Nat) _ (decide (R.getD x 0 = a)) o0 o1 o2 o4 o5 o8 o9 c10 (nown_free n10) (ix_nD (getD_some hxR)) (eq_nat _ _) (by
      have e : (if decide (R.getD x 0 = a) = true then PyData.int (b : Nat) else PyData.int (a : Nat)) = PyData.int ((if R.getD x 0 = a then b else a : Nat) : Int) := by
        generalize R.getD x 0 = v
        by_cases q : v = a <;> simp [q]
      rw [e, ← nD_set]
      exact setIx_I (by rw [nD_len]; exact hxR))
    obtain ⟨R', d10, n, sw, ih⟩ := b3_loop a b o0 o1 o2 o4 o5 o8 o9 C (R.set x (if R.getD x 0 = a then b else a)) (.dat (.int (x : Nat))) (nown_dat _) hn.2 fun y hy => by rw [List.length_set]; exact hx y (by simp [hy])
    refine ⟨R', d10, n, ⟨by rw [sw.len, List.length_set], fun y => ?_⟩, ?_⟩
    · rw [sw.get y]
      have hg : y ≠ x → (R.set x (if R.getD x 0 = a then b else a)).getD y 0 = R.getD y 0 := fun h => set_ne h
      by_cases q : y = x
      · subst q
        rw [if_neg hn.1, set_eq hxR]
        exact (if_pos (show y ∈ y :: C by simp)).symm
      · rw [hg q]
        by_cases c : y ∈ C
        · rw [if_pos c, if_pos (show y ∈ x :: C by simp [c])]
        · rw [if_neg c, if_neg (show ¬ y ∈ x :: C by simp [c, q])]
    · rw [nD_cons]
      exact (for_step st).trans ih
/-! one chain looked at -/
abbrev be1C : TD := (dB (dBin D.eq (dBin D.ix (dVar 3) (dVar 10)) (dVar 6)))
theorem be1C_s (R x a : D) (v : Bool) (j : Int) (o0 o1 o2 o4 o5 o7 o8 o9 : Cell) (h1 : D.ix R (.int j) = some x) (h2 : D.eq x a = some (.bool v)) : (gdName 10 (.int j) [o0, o1, o2, .own R, o4, o5, .dat a, o7, o8, o9, .un]).bind be1C = some (v, [o0, o1, o2, .own R, o4, o5, .dat a, o7, o8, o9, .dat (.int j)]) := by
  unfold be1C
  generalize D.ix = IX at *
  generalize D.eq = EQ at *
  simp [h1, h2]
theorem be1_lc (R C : List Nat) (a : Nat) (hC : ∀ x ∈ C, x < R.length) (o0 o1 o2 o4 o5 o7 o8 o9 : Cell) : dLcGo (gdName 10) be1C (dC (.int 1)) [10] (nD C) [o0, o1, o2, .own (.list (nD R)), o4, o5, .dat (.int (a : Nat)), o7, o8, o9, .un] = some ((C.filter (at_ R a)).map fun _ => .int 1, [o0, o1, o2, .own (.list (nD R)), o4, o5, .dat (.int (a : Nat)), o7, o8, o9, .un]) := by
  refine lc_nD (c := be1C) (el := dC (.int 1)) (i := 10) (e := [o0, o1, o2, .own (.list (nD R)), o4, o5, .dat (.int (a : Nat)), o7, o8, o9, .un]) (at_ R a) (fun _ : Nat => .int 1) C fun j hj => ?_
  refine ⟨[o0, o1, o2, .own (.list (nD R)), o4, o5, .dat (.int (a : Nat)), o7, o8, o9, .dat (.int (j : Nat))], be1C_s _ _ _ _ _ _ _ _ _ _ _ _ _ (ix_nD (getD_some (hC j hj))) (eq_nat _ _), ?_⟩
  split <;> simp
theorem be1_s (R : D) (lf N : List D) (z : D) (o0 o1 o2 o4 o6 o7 o8 o9 c10 : Cell) (f8 : o8.free = true) (n10 : nown c10) (h : dLcGo (gdName 10) be1C (dC (.int 1)) [10] lf [o0, o1, o2, .own R, o4, .dat (.list lf), o6, o7, o8, o9, .un] = some (N, [o0, o1, o2, .own R, o4, .dat (.list lf), o6, o7, o8, o9, .un])) (hl : lf.length ≤ 16777216) (h2 : D.len [.list N] = some z) : be1 [o0, o1, o2, .own R, o4, .dat (.list lf), o6, o7, o8, o9, c10] = some (.nx [o0, o1, o2, .own R, o4, .dat (.list lf), o6, o7, .dat z, o9, c10]) := by
  unfold be1
  unfold be1C at h
  generalize (dB (dBin D.eq (dBin D.ix (dVar 3) (dVar 10)) (dVar 6))) = C at *
  generalize D.len = LN at *
  rcases n10 with rfl | ⟨d, rfl⟩
  · simp [h, hl, h2, f8]
  · simp [h, hl, h2, f8]
theorem be2_no (lf : List D) (f y n : Int) (o0 o1 o2 o3 o4 o6 o7 o9 c10 : Cell) (h1 : D.mul (.int 2) (.int f) = some (.int y)) (h2 : D.len [.list lf] = some (.int n)) (h3 : D.gt (.int y) (.int n) = some (.bool false)) : be2 [o0, o1, o2, o3, o4, .dat (.list lf), o6, o7, .dat (.int f), o9, c10] = some (.nx [o0, o1, o2, o3, o4, .dat (.list lf), o6, o7, .dat (.int f), o9, c10]) := by
  unfold be2
  generalize D.mul = MU at *
  generalize D.len = LN at *
  generalize D.gt = GT at *
  simp [h1, h2, h3]
theorem be2_yes (B : SD) (lf : List D) (f y n : Int) (o0 o1 o2 o3 o4 o6 o7 o9 c10 : Cell) (E : HD.Env) (h1 : D.mul (.int 2) (.int f) = some (.int y)) (h2 : D.len [.list lf] = some (.int n)) (h3 : D.gt (.int y) (.int n) = some (.bool true)) (h4 : dForGo (gdName 10) B lf [o0, o1, o2, o3, o4, .dat (.list lf), o6, o7, .dat (.int f), o9, c10] = some (.nx E)) : (dIfS (dB (dBin D.gt (dBin D.mul (dC (.int 2)) (dVar 8)) (dCB D.len (dA1 (dVar 5) dA0)))) (dSeq (dFor (dI D.lst? (dVar 5)) (gdName 10) B) dBrk) dNx) [o0, o1, o2, o3, o4, .dat (.list lf), o6, o7, .dat (.int f), o9, c10] = some (.bk E) := by
  generalize D.mul = MU at *
  generalize D.len = LN at *
  generalize D.gt = GT at *
  simp [h1, h2, h3, h4]
theorem b2_loop (L : List (Nat × Nat)) (R : List Nat) (a b : Nat) (hab : a ≠ b) (hR : R.length ≤ 1000) (o0 o1 o2 o4 o9 : Cell) : ∀ (Cs : List (List Nat)) (c5 c8 c10 : Cell), nown c5 → nown c8 → nown c10 → (∀ C ∈ Cs, Chain L (at_ R a) (at_ R b) (TT R a b) C) → (∃ C ∈ Cs, C.countP (at_ R b) < C.countP (at_ R a)) →
    ∃ (R' C : List Nat) (d5 d8 d10 : Cell), nown d5 ∧ nown d8 ∧ nown d10 ∧ Chain L (at_ R a) (at_ R b) (TT R a b) C ∧ C.countP (at_ R b) < C.countP (at_ R a) ∧ Swap R R' C a b ∧ dForGo (gdName 5) b_evened_2 (ccD Cs) [o0, o1, o2, .own (.list (nD R)), o4, c5, .dat (.int (a : Nat)), .dat (.int (b : Nat)), c8, o9, c10] = some (.nx [o0, o1, o2, .own (.list (nD R')), o4, d5, .dat (.int (a : Nat)), .dat (.int (b : Nat)), d8, o9, d10])
  | [], c5, c8, c10, _, _, _, _, h => by obtain ⟨C, hC, _⟩ := h; cases hC
  | C :: Cs, c5, c8, c10, n5, n8, n10, hch, hex => by
    have ch := hch C (by simp)
    have hCl : ∀ x ∈ C, x < R.length := fun x hx => (mem_TT.mp (ch.sub x hx)).1
    have hC := len_le (List.nodup_range (n := R.length)) ch.nd fun x hx => List.mem_range.mpr (hCl x hx)
    rw [List.length_range] at hC
    have e0 : gdName 5 (.list (nD C)) [o0, o1, o2, .own (.list (nD R)), o4, c5, .dat (.int (a : Nat)), .dat (.int (b : Nat)), c8, o9, c10] = some [o0, o1, o2, .own (.list (nD R)), o4, .dat (.list (nD C)), .dat (.int (a : Nat)), .dat (.int (b : Nat)), c8, o9, c10] := by simp [nown_free n5]
    have lc := be1_lc R C a hCl o0 o1 o2 o4 (.dat (.list (nD C))) (.dat (.int (b : Nat))) c8 o9
    have s1 := be1_s (.list (nD R)) (nD C) _ (.int ((C.countP (at_ R a) : Nat) : Int)) o0 o1 o2 o4 (.dat (.int (a : Nat))) (.dat (.int (b : Nat))) c8 o9 c10 (nown_free n8) n10 lc (by rw [nD_len]; omega) (by rw [len_list, List.length_map, ← List.countP_eq_length_filter])
    have hAB := countP_AB (A := at_ R a) (B := at_ R b) (fun x h => by
      have := of_decide_eq_true h
      exact decide_eq_false fun q => hab (this ▸ q)) C fun x hx => by
        rcases (mem_TT.mp (ch.sub x hx)).2 with q | q
        · exact .inl (decide_eq_true q)
        · exact .inr (decide_eq_true q)
    have m1 : D.mul (.int 2) (.int (C.countP (at_ R a) : Nat)) = some (.int ((2 * C.countP (at_ R a) : Nat) : Int)) := mul_nat 2 _ (by decide +kernel) (w1k (by omega))
    have m2 := gt_dec (2 * C.countP (at_ R a)) C.length
    by_cases q : C.length < 2 * C.countP (at_ R a)
    · rw [decide_eq_true q] at m2
      obtain ⟨R', d10, nd10, sw, fl⟩ := b3_loop a b o0 o1 o2 o4 (.dat (.list (nD C))) (.dat (.int ((C.countP (at_ R a) : Nat) : Int))) o9 C R c10 n10 ch.nd hCl
      have s2 : be2 _ = _ := be2_yes b_evened_3 (nD C) _ _ _ _ _ _ _ _ _ _ _ _ _ m1 (len_nD C) m2 fl
      refine ⟨R', C, .dat (.list (nD C)), .dat (.int ((C.countP (at_ R a) : Nat) : Int)), d10, nown_dat _, nown_dat _, nd10, ch, by omega, sw, ?_⟩
      have := for_bk (t := b_evened_2) (ds := ccD Cs) e0 (by rw [be_is]; exact (dSeq_nx s1).trans s2)
      exact this
    · rw [decide_eq_false q] at m2
      have s2 := be2_no (nD C) _ _ _ o0 o1 o2 (.own (.list (nD R))) o4 (.dat (.int (a : Nat))) (.dat (.int (b : Nat))) o9 c10 m1 (len_nD C) m2
      have hex2 : ∃ C ∈ Cs, C.countP (at_ R b) < C.countP (at_ R a) := by
        obtain ⟨D, hD, hlt⟩ := hex
        rcases List.mem_cons.mp hD with rfl | hD
        · omega
        · exact ⟨D, hD, hlt⟩
      obtain ⟨R', C', d5, d8, d10, r5, r8, r10, a1, a2, a3, a4⟩ := b2_loop L R a b hab hR o0 o1 o2 o4 o9 Cs (.dat (.list (nD C))) (.dat (.int ((C.countP (at_ R a) : Nat) : Int))) c10 (nown_dat _) (nown_dat _) n10 (fun D hD => hch D (by simp [hD])) hex2
      refine ⟨R', C', d5, d8, d10, r5, r8, r10, a1, a2, a3, ?_⟩
      exact (for_nx (t := b_evened_2) (ds := ccD Cs) e0 (by rw [be_is]; exact (dSeq_nx s1).trans s2)).trans a4
/-! one round -/
def szs (P : Nat) (R : List Nat) : List Nat := (List.range P).map fun p => R.count p
theorem szs_get {P p : Nat} {R : List Nat} (h : p < P) : (szs P R)[p]? = some (R.count p) := by
  rw [szs, List.getElem?_map, List.getElem?_range h]; rfl
theorem szs_len (P : Nat) (R : List Nat) : (szs P R).length = P := by rw [szs, List.length_map, List.length_range]
theorem bv1_lc (P : Nat) (R : List Nat) (o0 o1 o2 o4 o5 o6 o7 o8 o10 : Cell) : dLcGo (gdName 9) dYes (dMet isLst L.count (dVar 3) (dA1 (dVar 9) dA0)) [9] (rangeD 0 P) [o0, o1, o2, .own (.list (nD R)), o4, o5, o6, o7, o8, .un, o10] = some (nD (szs P R), [o0, o1, o2, .own (.list (nD R)), o4, o5, o6, o7, o8, .un, o10]) := by
  have h := lc_map0 (el := dMet isLst L.count (dVar 3) (dA1 (dVar 9) dA0)) (i := 9) (n := P) (e := [o0, o1, o2, .own (.list (nD R)), o4, o5, o6, o7, o8, .un, o10]) (fun j : Nat => .int (R.count j : Nat)) fun j hj => by
    have e := count_nD j R
    generalize L.count = LC at *
    simp [e]
  have e : nD (szs P R) = (List.range P).map fun j : Nat => (PyData.int (R.count j : Nat) : D) := by
    rw [szs, ← map_nD, List.map_map]; rfl
  rw [e]
  exact h
theorem bv1_s (P : Nat) (hP : P ≤ 1000) (E : XD) (N : List D) (o0 o1 o3 o4 o5 o6 o7 o8 o10 : Cell) (f4 : o4.free = true) (h : dLcGo (gdName 9) dYes E [9] (rangeD 0 P) [o0, o1, .dat (.int (P : Nat)), o3, o4, o5, o6, o7, o8, .un, o10] = some (N, [o0, o1, .dat (.int (P : Nat)), o3, o4, o5, o6, o7, o8, .un, o10])) :
    (dSet 4 (dN (dLc (dIA range1 (dA1 (dVar 2) dA0)) (gdName 9) dYes E [9]))) [o0, o1, .dat (.int (P : Nat)), o3, o4, o5, o6, o7, o8, .un, o10] = some (.nx [o0, o1, .dat (.int (P : Nat)), o3, .dat (.list N), o5, o6, o7, o8, .un, o10]) := by
  have hr := r1n (b := (P : Int)) (n := P) (by omega) (by omega) (by omega)
  have hl : (rangeD 0 P).length ≤ 16777216 := by rw [rangeD_len]; omega
  generalize range1 = RA at *
  generalize rangeD 0 P = RD at *
  generalize dYes = Y at *
  simp [h, hr, hl, f4]
theorem bv2_s (S : List D) (m n a b : D) (o0 o1 o2 o3 o5 o6 o7 o8 o9 o10 : Cell) (f6 : o6.free = true) (f7 : o7.free = true) (h1 : D.max1 [.list S] = some m) (h2 : D.min1 [.list S] = some n) (h3 : L.index (.list S) [m] = some a) (h4 : L.index (.list S) [n] = some b) : bv2 [o0, o1, o2, o3, .dat (.list S), o5, o6, o7, o8, o9, o10] = some (.nx [o0, o1, o2, o3, .dat (.list S), o5, .dat a, .dat b, o8, o9, o10]) := by
  unfold bv2
  generalize D.max1 = MA at *
  generalize D.min1 = MI at *
  generalize L.index = IX at *
  simp [h1, h2, h3, h4, f6, f7]
theorem bv3_ro (S x : D) (a b : D) (i j : Int) (o0 o1 o2 o5 o8 o9 o10 : Cell) (h1 : D.ix S a = some (.int i)) (h2 : D.ix S b = some (.int j)) (h : i - j < 2) : bv3 [o0, o1, o2, .own x, .dat S, o5, .dat a, .dat b, o8, o9, o10] = some (.ro x [o0, o1, o2, .un, .dat S, o5, .dat a, .dat b, o8, o9, o10]) := by
  unfold bv3
  generalize D.ix = IX at *
  simp [h1, h2, h]
theorem bv3_nx (S : D) (a b : D) (i j : Int) (o0 o1 o2 o3 o5 o8 o9 o10 : Cell) (h1 : D.ix S a = some (.int i)) (h2 : D.ix S b = some (.int j)) (h : ¬ i - j < 2) : bv3 [o0, o1, o2, o3, .dat S, o5, .dat a, .dat b, o8, o9, o10] = some (.nx [o0, o1, o2, o3, .dat S, o5, .dat a, .dat b, o8, o9, o10]) := by
  unfold bv3
  generalize D.ix = IX at *
  simp [h1, h2, h]
theorem bv4_s (F : List D → Option (D × List D)) (B : SD) (l R a b : D) (Z : List D) (E : HD.Env) (o1 o2 o4 o5 o8 o9 o10 : Cell) (h1 : F [l, R, a, b] = some (.list Z, [R])) (h2 : dForGo (gdName 5) B Z [.dat l, o1, o2, .own R, o4, o5, .dat a, .dat b, o8, o9, o10] = some (.nx E)) :
    (dFor (dI D.lst? (dCall [false, true, false, false] F (dA1 (dVar 0) (dA1 (dVar 3) (dA1 (dVar 6) (dA1 (dVar 7) dA0)))))) (gdName 5) B) [.dat l, o1, o2, .own R, o4, o5, .dat a, .dat b, o8, o9, o10] = some (.nx E) := by
  simp [h1, h2]
theorem swap_mem {R R' C : List Nat} {a b P : Nat} (w : Swap R R' C a b) (ha : a < P) (hb : b < P) (h : ∀ x ∈ R, x < P) : ∀ x ∈ R', x < P := by
  intro x hx
  obtain ⟨i, hi, rfl⟩ := getD_mem hx
  rw [w.get i]
  split
  · split <;> assumption
  · refine h _ (List.mem_of_getElem? (getD_some (by rw [← w.len]; exact hi)))
theorem ev_loop (L : List (Nat × Nat)) (hL : L.length ≤ 1000) (P : Nat) (hP : 0 < P) (hP2 : P ≤ 1000) (o1 : Cell) : ∀ (n : Nat) (R : List Nat) (c4 c5 c6 c7 c8 c10 : Cell), pot P R < n → nown c4 → nown c5 → nown c6 → nown c7 → nown c8 → nown c10 → R.length = L.length → (∀ x ∈ R, x < P) → VT L R →
    ∃ (R' : List Nat) (E : HD.Env), dWhile t_evened_1 b_evened_1 n [.dat (.list (qqD L)), o1, .dat (.int (P : Nat)), .own (.list (nD R)), c4, c5, c6, c7, c8, .un, c10] = some (.ro (.list (nD R')) E) ∧ R'.length = L.length ∧ (∀ x ∈ R', x < P) ∧ VT L R' ∧ ∃ M, (∀ p, p < P → R'.count p ≤ M) ∧ (∃ p, p < P ∧ R'.count p = M) ∧ (∀ p, p < P → M ≤ R'.count p + 1)
  | 0, R, _, _, _, _, _, _, h, _, _, _, _, _, _, _, _, _ => by omega
  | n + 1, R, c4, c5, c6, c7, c8, c10, h, n4, n5, n6, n7, n8, n10, hR, hRP, hv => by
    have t : ∀ e, t_evened_1 e = some (true, e) := fun e => by unfold t_evened_1; simp
    have s1 : bv1 [.dat (.list (qqD L)), o1, .dat (.int (P : Nat)), .own (.list (nD R)), c4, c5, c6, c7, c8, .un, c10] = _ := bv1_s P hP2 _ _ (.dat (.list (qqD L))) o1 (.own (.list (nD R))) c4 c5 c6 c7 c8 c10 (nown_free n4) (bv1_lc P R (.dat (.list (qqD L))) o1 (.dat (.int (P : Nat))) c4 c5 c6 c7 c8 c10)
    have hne : szs P R ≠ [] := fun z => by have := szs_len P R; rw [z] at this; simp at this; omega
    obtain ⟨M, hM, hM2, e1⟩ := max1_nD (szs P R) hne
    obtain ⟨m, hm, hm2, e2⟩ := min1_nD (szs P R) hne
    obtain ⟨a, ha, ga, e3⟩ := index_mem hM
    obtain ⟨b, hb, gb, e4⟩ := index_mem hm
    rw [szs_len] at ha hb
    have ca : R.count a = M := by rw [← ga, List.getD_eq_getElem?_getD, szs_get ha]; rfl
    have cb : R.count b = m := by rw [← gb, List.getD_eq_getElem?_getD, szs_get hb]; rfl
    have hle : ∀ p, p < P → R.count p ≤ M := fun p hp => hM2 _ (List.mem_of_getElem? (szs_get hp))
    have hge : ∀ p, p < P → m ≤ R.count p := fun p hp => hm2 _ (List.mem_of_getElem? (szs_get hp))
    have s2 := bv2_s (nD (szs P R)) _ _ _ _ (.dat (.list (qqD L))) o1 (.dat (.int (P : Nat))) (.own (.list (nD R))) c5 c6 c7 c8 .un c10 (nown_free n6) (nown_free n7) e1 e2 e3 e4
    have x1 : D.ix (.list (nD (szs P R))) (.int (a : Nat)) = some (.int (M : Nat)) := ix_nD (by rw [szs_get ha, ca])
    have x2 : D.ix (.list (nD (szs P R))) (.int (b : Nat)) = some (.int (m : Nat)) := ix_nD (by rw [szs_get hb, cb])
    by_cases q : ((M : Nat) : Int) - (m : Nat) < 2
    · have s3 := bv3_ro (.list (nD (szs P R))) (.list (nD R)) _ _ _ _ (.dat (.list (qqD L))) o1 (.dat (.int (P : Nat))) c5 c8 .un c10 x1 x2 q
      refine ⟨R, [.dat (.list (qqD L)), o1, .dat (.int (P : Nat)), .un, .dat (.list (nD (szs P R))), c5, .dat (.int (a : Nat)), .dat (.int (b : Nat)), c8, .un, c10], ?_, hR, hRP, hv, M, hle, ⟨a, ha, ca⟩, fun p hp => by have := hge p hp; omega⟩
      rw [dWhile_s, t, Option.bind_some, if_pos rfl, bv_is]
      have : dSeq bv1 (dSeq bv2 (dSeq bv3 bv4)) [.dat (.list (qqD L)), o1, .dat (.int (P : Nat)), .own (.list (nD R)), c4, c5, c6, c7, c8, .un, c10] = some (.ro (.list (nD R)) [.dat (.list (qqD L)), o1, .dat (.int (P : Nat)), .un, .dat (.list (nD (szs P R))), c5, .dat (.int (a : Nat)), .dat (.int (b : Nat)), c8, .un, c10]) := by
        refine (dSeq_nx s1).trans ((dSeq_nx s2).trans ?_)
        rw [dSeq_, s3, Option.bind_some, seqK_ro]
      rw [this]
      rfl
    · have hab : a ≠ b := fun z => by rw [z] at ca; omega
      have s3 := bv3_nx (.list (nD (szs P R))) _ _ _ _ (.dat (.list (qqD L))) o1 (.dat (.int (P : Nat))) (.own (.list (nD R))) c5 c8 .un c10 x1 x2 q
      obtain ⟨Cs, f1, f2, f3, f4⟩ := chains_eq L R a b hab hR hL hv
      obtain ⟨R', C, d5, d8, d10, r5, r8, r10, ch, hlt, sw, fl⟩ := b2_loop L R a b hab (by omega) (.dat (.list (qqD L))) o1 (.dat (.int (P : Nat))) (.dat (.list (nD (szs P R)))) .un Cs c5 c8 c10 n5 n8 n10 f2 (pos_of_bal Cs (by rw [f3, f4]; omega))
      have s4 : bv4 _ = _ := bv4_s f_chains_of b_evened_2 _ _ _ _ _ _ _ _ _ _ _ _ _ f1 fl
      have hCR : ∀ x ∈ C, x < R.length ∧ (R.getD x 0 = a ∨ R.getD x 0 = b) := fun x hx => mem_TT.mp (ch.sub x hx)
      obtain ⟨k1, k2, k3⟩ := swap_cnt hab ch.nd hCR sw
      have hb1 := ch.bal
      have pd := pot_drop (P := P) (R := R) (R' := R') ha hb hab (by omega) (by omega) (by omega) k3
      obtain ⟨R2, E, w, r⟩ := ev_loop L hL P hP hP2 o1 n R' (.dat (.list (nD (szs P R)))) d5 (.dat (.int (a : Nat))) (.dat (.int (b : Nat))) d8 d10 (by omega) (nown_dat _) r5 (nown_dat _) (nown_dat _) r8 r10 (by rw [sw.len]; exact hR) (swap_mem sw ha hb hRP) (swap_vt hR hab hv (fun x => mem_TT) ch sw)
      refine ⟨R2, E, ?_, r⟩
      refine (while_nx (t _) (by
        rw [bv_is]
        exact (dSeq_nx s1).trans ((dSeq_nx s2).trans ((dSeq_nx s3).trans s4)))).trans ?_
      exact w
theorem dFnO_ro {n : Nat} {ms : List Bool} {body : SD} {ds os : List D} {e e0 e1 : HD.Env} {d : D} (h1 : initE ms ds = some e) (h2 : e ++ List.replicate (n - ms.length) .un = e0) (h3 : body e0 = some (.ro d e1)) (h4 : outsE e1 0 ms = some os) : dFnO n ms body ds = some (d, os) := by
  rw [dFnO_, h1, Option.bind_some, h2, h3, Option.bind_some, endO_ro, h4]; rfl
theorem ev_fn (W : SD) (l : D) (R R' : List D) (P : Int) (E : HD.Env) (hP : ¬ P = 0) (h1 : D.list1 [.list R] = some (.list R)) (h : W [.dat l, .dat (.list R), .dat (.int P), .own (.list R), .un, .un, .un, .un, .un, .un, .un] = some (.ro (.list R') E)) (h2 : outsE E 0 [false, false, false] = some []) :
    (dFnO 11 [false, false, false] ((dSeq (dSetN 3 (dCBN D.list1 (dA1 (dVar 1) dA0))) (dSeq (dIfS (dB (dBin D.eq (dVar 2) (dC (.int 0)))) (dRetV 3) dNx) W)))) [l, .list R, .int P] = some (.list R', []) := by
  refine dFnO_ro (e := [.dat l, .dat (.list R), .dat (.int P)]) rfl rfl (e1 := E) ?_ h2
  generalize D.list1 = LI at *
  simp [h1, h, hP]
theorem outs3 (E : HD.Env) : outsE E 0 [false, false, false] = some [] := by
  simp [outsE]
theorem evened_ex (L : List (Nat × Nat)) (hL : L.length ≤ 900) (P : Nat) (hP : 0 < P) (hP2 : P ≤ 1000) (R : List Nat) (hR : R.length = L.length) (hRP : ∀ x ∈ R, x < P) (hv : VT L R) :
    ∃ R' : List Nat, f_evened [.list (qqD L), .list (nD R), .int (P : Nat)] = some (.list (nD R'), []) ∧ R'.length = L.length ∧ (∀ x ∈ R', x < P) ∧ VT L R' ∧ ∃ M, (∀ p, p < P → R'.count p ≤ M) ∧ (∃ p, p < P ∧ R'.count p = M) ∧ (∀ p, p < P → M ≤ R'.count p + 1) := by
  have hp := pot_le hRP
  have hn : R.length * R.length ≤ 900 * 900 := Nat.mul_le_mul (by omega) (by omega)
  obtain ⟨R', E, w, r⟩ := ev_loop L (by omega) P hP hP2 (.dat (.list (nD R))) fuel R .un .un .un .un .un .un (by show _ < 1000000; omega) nown_un nown_un nown_un nown_un nown_un nown_un hR hRP hv
  exact ⟨R', ev_fn (dWhile t_evened_1 b_evened_1 fuel) _ (nD R) (nD R') _ E (by omega) rfl w (outs3 E), r⟩
end K49

namespace K49
open PySem HD CM L2
/-! an even timetable is found to be one -/
def le1 : SD := (dIfS (dOr (dNot (dTr (dUn (D.isi .list) (dVar 1)))) (dB (dBin D.ne (dCB D.len (dA1 (dVar 1) dA0)) (dCB D.len (dA1 (dVar 0) dA0))))) (dRet (dC (.bool false))) dNx)
def le2 : SD := (dParN 4 5 dNewT (dLc (dIA range1 (dA1 (dVar 2) dA0)) (gdName 7) dYes (dC (.int 0)) [7]))
def le3 : SD := (dFor (dIT enum1 (dA1 (dVar 1) dA0)) (gdTup 2 (gdCons (gdName 6) (gdCons (gdName 7) gdNil))) b__law_even_1)
def le4 : SD := (dRet (dBin D.le (dCB D.max1 (dA1 (dN (dBinN D.cat (dVar 5) (dN (dLst (dA1 (dC (.int 0)) dA0))))) dA0)) (dVar 3)))
theorem le_is : f__law_even = dFn 9 [false, false, false, false] (dSeq le1 (dSeq le2 (dSeq le3 le4))) := rfl
def lf1 : SD := (dIfS (dOr (dNot (dTr (dUn (D.isi .int) (dVar 7)))) (dOr (dTr (dUn (D.isi .bool) (dVar 7))) (dOr (dB (dBin D.lt (dVar 7) (dC (.int 0)))) (dB (dBin D.ge (dVar 7) (dVar 2)))))) (dRet (dC (.bool false))) dNx)
def lf2 : SD := (dFor (dI D.lst? (dN (dLst (dA1 (dC (.int 0)) (dA1 (dC (.int 1)) dA0))))) (gdName 8) b__law_even_2)
def lf3 : SD := (dStore D.setIx (dBin D.add (dBin D.ix (dVar 5) (dVar 7)) (dC (.int 1))) (dVar 5) (dVar 7))
theorem lf_is : b__law_even_1 = (dSeq lf1 (dSeq lf2 lf3)) := rfl
def lg1 : SD := (dIfS (dB (dBin D.dIn (dTup (dA1 (dVar 8) (dA1 (dBin D.ix (dBin D.ix (dVar 0) (dVar 6)) (dVar 8)) (dA1 (dVar 7) dA0)))) (dVar 4))) (dRet (dC (.bool false))) dNx)
def lg2 : SD := (dStore D.dput (dC (.int 1)) (dVar 4) (dTup (dA1 (dVar 8) (dA1 (dBin D.ix (dBin D.ix (dVar 0) (dVar 6)) (dVar 8)) (dA1 (dVar 7) dA0)))))
theorem lg_is : b__law_even_2 = (dSeq lg1 lg2) := rfl
theorem enum_map {α : Type} (f : α → D) (d : α) (l : List α) : enumD 0 (l.map f) = (List.range l.length).map fun i => .tuple [.int (i : Nat), f (l.getD i d)] := by
  apply List.ext_getElem?
  intro i
  rw [enumD_get, List.getElem?_map, List.getElem?_map]
  by_cases h : i < l.length
  · have e : l.getD i d = l[i] := by rw [List.getD_eq_getElem?_getD, List.getElem?_eq_getElem h]; rfl
    rw [List.getElem?_range h, List.getElem?_eq_getElem h, Option.map_some, Option.map_some, Option.map_some, e, Nat.zero_add]
  · rw [List.getElem?_eq_none (l := l) (by omega), List.getElem?_eq_none (l := List.range l.length) (by rw [List.length_range]; omega)]
    rfl
def dk (K : List (Nat × Nat × Nat)) : D := .dict ((.none, .none) :: K.map fun q => (tri q, .int 1))
theorem tEq_tri (a b : Nat × Nat × Nat) : tEq (tri a) (tri b) = decide (a = b) := by
  show (decide ((a.1 : Int) = b.1) && (decide ((a.2.1 : Int) = b.2.1) && (decide ((a.2.2 : Int) = b.2.2) && true))) = _
  rw [Bool.eq_iff_iff]
  simp only [Bool.and_eq_true, decide_eq_true_eq, and_true, Int.natCast_inj]
  constructor
  · rintro ⟨h1, h2, h3⟩
    exact Prod.ext h1 (Prod.ext h2 h3)
  · rintro rfl
    exact ⟨rfl, rfl, rfl⟩
theorem look_tri (q : Nat × Nat × Nat) : ∀ (K : List (Nat × Nat × Nat)), q ∉ K → lookD tEq (K.map fun q => (tri q, (.int 1 : D))) (tri q) = none
  | [], _ => rfl
  | k :: K, h => by
    rw [List.map_cons, lookD]
    have : tEq (tri k) (tri q) = false := by rw [tEq_tri]; exact decide_eq_false fun e => h (by simp [e])
    rw [this, if_neg (by decide)]
    exact look_tri q K fun z => h (by simp [z])
theorem dIn_tri (q : Nat × Nat × Nat) (K : List (Nat × Nat × Nat)) (h : q ∉ K) : D.dIn (tri q) (dk K) = some (.bool false) := by
  have : D.look (dk K) (tri q) = some (lookD tEq (K.map fun q => (tri q, (.int 1 : D))) (tri q)) := rfl
  rw [D.dIn, this, look_tri q K h]
  rfl
theorem dput_tri (q : Nat × Nat × Nat) (K : List (Nat × Nat × Nat)) (h : q ∉ K) (hl : K.length < 1000) : D.dput (dk K) (tri q) (.int 1) = some (dk (K ++ [q])) := by
  have e : D.dput (dk K) (tri q) (.int 1) = if (K.map fun q => (tri q, (.int 1 : D))).length < 16777216 then some (.dict ((.none, .none) :: putD tEq (K.map fun q => (tri q, (.int 1 : D))) (tri q) (.int 1))) else none := rfl
  rw [e, List.length_map, if_pos (by omega)]
  have a : ((K.map fun q => (tri q, (.int 1 : D))).any fun z => tEq z.1 (tri q)) = false := by
    rw [List.any_map, List.any_eq_false]
    intro k hk
    show ¬ tEq (tri k) (tri q) = true
    rw [tEq_tri, decide_eq_true_eq]
    exact fun z => h (z ▸ hk)
  rw [putD, a, if_neg (by decide), dk, List.map_append]
  rfl
/-- what has been put: both sides of the first i lessons -/
def KK (L : List (Nat × Nat)) (R : List Nat) (i : Nat) : List (Nat × Nat × Nat) := (List.range i).flatMap fun j => [(0, (L.getD j (0, 0)).1, R.getD j 0), (1, (L.getD j (0, 0)).2, R.getD j 0)]
theorem KK_succ (L : List (Nat × Nat)) (R : List Nat) (i : Nat) : KK L R (i + 1) = KK L R i ++ [(0, (L.getD i (0, 0)).1, R.getD i 0)] ++ [(1, (L.getD i (0, 0)).2, R.getD i 0)] := by
  rw [KK, List.range_succ, List.flatMap_append, KK, List.append_assoc]
  rfl
theorem KK_len (L : List (Nat × Nat)) (R : List Nat) : ∀ i, (KK L R i).length = 2 * i
  | 0 => rfl
  | i + 1 => by rw [KK_succ, List.length_append, List.length_append, KK_len L R i]; simp; omega
theorem KK_mem {L : List (Nat × Nat)} {R : List Nat} {i s x p : Nat} (h : (s, x, p) ∈ KK L R i) : ∃ j, j < i ∧ p = R.getD j 0 ∧ ((s = 0 ∧ x = (L.getD j (0, 0)).1) ∨ (s = 1 ∧ x = (L.getD j (0, 0)).2)) := by
  rw [KK, List.mem_flatMap] at h
  obtain ⟨j, hj, h⟩ := h
  refine ⟨j, List.mem_range.mp hj, ?_⟩
  simp only [List.mem_cons, Prod.mk.injEq, List.mem_nil_iff, or_false] at h
  rcases h with ⟨h1, h2, h3⟩ | ⟨h1, h2, h3⟩
  · exact ⟨h3, .inl ⟨h1, h2⟩⟩
  · exact ⟨h3, .inr ⟨h1, h2⟩⟩
theorem KK_0 {L : List (Nat × Nat)} {R : List Nat} (hR : R.length = L.length) (hv : VT L R) {i : Nat} (hi : i < L.length) : (0, (L.getD i (0, 0)).1, R.getD i 0) ∉ KK L R i := by
  intro h
  obtain ⟨j, hj, h1, h2⟩ := KK_mem h
  rcases h2 with ⟨_, h2⟩ | ⟨h2, _⟩
  · have := hv i j hi (by omega) (by omega) h1
    unfold sh at this
    rw [← h2] at this
    simp at this
  · cases h2
theorem KK_1 {L : List (Nat × Nat)} {R : List Nat} (hR : R.length = L.length) (hv : VT L R) {i : Nat} (hi : i < L.length) : (1, (L.getD i (0, 0)).2, R.getD i 0) ∉ KK L R i ++ [(0, (L.getD i (0, 0)).1, R.getD i 0)] := by
  intro h
  rcases List.mem_append.mp h with h | h
  · obtain ⟨j, hj, h1, h2⟩ := KK_mem h
    rcases h2 with ⟨h2, _⟩ | ⟨_, h2⟩
    · cases h2
    · have := hv i j hi (by omega) (by omega) h1
      unfold sh at this
      rw [← h2] at this
      simp at this
  · simp at h
theorem lg_step (l t x p dd dd2 : D) (i s : Int) (o1 o2 o3 o5 c8 : Cell) (f8 : c8.free = true) (h1 : D.ix l (.int i) = some t) (h2 : D.ix t (.int s) = some x) (h3 : D.dIn (.tuple [.int s, x, p]) dd = some (.bool false)) (h4 : D.dput dd (.tuple [.int s, x, p]) (.int 1) = some dd2) :
    (gdName 8 (.int s) [.dat l, o1, o2, o3, .own dd, o5, .dat (.int i), .dat p, c8]).bind b__law_even_2 = some (.nx [.dat l, o1, o2, o3, .own dd2, o5, .dat (.int i), .dat p, .dat (.int s)]) := by
  unfold b__law_even_2
  generalize D.ix = IX at *
  generalize D.dIn = DI at *
  generalize D.dput = DP at *
  simp [h1, h2, h3, h4, f8]
theorem lf2_s (B : SD) (e e' : HD.Env) (h : dForGo (gdName 8) B [.int 0, .int 1] e = some (.nx e')) : (dFor (dI D.lst? (dN (dLst (dA1 (dC (.int 0)) (dA1 (dC (.int 1)) dA0))))) (gdName 8) B) e = some (.nx e') := by
  simp [h]
theorem lf2_ex (L : List (Nat × Nat)) (R : List Nat) (hR : R.length = L.length) (hl : L.length ≤ 400) (hv : VT L R) {i : Nat} (hi : i < L.length) (o1 o2 o3 o5 c8 : Cell) (f8 : c8.free = true) :
    ∃ d8 : Cell, d8.free = true ∧ lf2 [.dat (.list (qqD L)), o1, o2, o3, .own (dk (KK L R i)), o5, .dat (.int (i : Nat)), .dat (.int (R.getD i 0 : Nat)), c8] = some (.nx [.dat (.list (qqD L)), o1, o2, o3, .own (dk (KK L R (i + 1))), o5, .dat (.int (i : Nat)), .dat (.int (R.getD i 0 : Nat)), d8]) := by
  have n0 := KK_0 hR hv hi
  have n1 := KK_1 hR hv hi
  have kl := KK_len L R i
  have g1 := lg_step (.list (qqD L)) _ _ (.int (R.getD i 0 : Nat)) (dk (KK L R i)) _ (i : Nat) 0 o1 o2 o3 o5 c8 f8 (ix_qqD hi) (fst_t _ _) (dIn_tri _ _ n0) (dput_tri _ _ n0 (by omega))
  have g2 := lg_step (.list (qqD L)) _ _ (.int (R.getD i 0 : Nat)) (dk (KK L R i ++ [(0, (L.getD i (0, 0)).1, R.getD i 0)])) _ (i : Nat) 1 o1 o2 o3 o5 (.dat (.int 0)) rfl (ix_qqD hi) (snd_t _ _) (dIn_tri _ _ n1) (dput_tri _ _ n1 (by rw [List.length_append, List.length_singleton]; omega))
  rw [← KK_succ] at g2
  refine ⟨.dat (.int 1), rfl, lf2_s b__law_even_2 _ _ ?_⟩
  exact (for_step g1).trans ((for_step g2).trans rfl)
theorem lf1_s (p P : Nat) (hp : p < P) (o0 o1 o3 o4 o5 o6 o8 : Cell) : lf1 [o0, o1, .dat (.int (P : Nat)), o3, o4, o5, o6, .dat (.int (p : Nat)), o8] = some (.nx [o0, o1, .dat (.int (P : Nat)), o3, o4, o5, o6, .dat (.int (p : Nat)), o8]) := by
  unfold lf1
  have e1 : D.isi .int (.int (p : Nat)) = some (.bool true) := isi_int_int _
  have e2 : D.isi .bool (.int (p : Nat)) = some (.bool false) := isi_int_bool _
  have e3 : D.lt (.int (p : Nat)) (.int 0) = some (.bool (decide (p < 0))) := lt_nat p 0
  have e4 := ge_dec p P
  rw [decide_eq_false (by omega)] at e3 e4
  generalize D.isi = II at *
  generalize D.lt = LT at *
  generalize D.ge = GE at *
  simp [e1, e2, e3, e4]
theorem lf3_s (S S2 : List D) (p c : Int) (o0 o1 o2 o3 o4 o6 o8 : Cell) (h1 : D.ix (.list S) (.int p) = some (.int c)) (h2 : D.setIx (.list S) (.int p) (.int (c + 1)) = some (.list S2)) : lf3 [o0, o1, o2, o3, o4, .own (.list S), o6, .dat (.int p), o8] = some (.nx [o0, o1, o2, o3, o4, .own (.list S2), o6, .dat (.int p), o8]) := by
  unfold lf3
  generalize D.ix = IX at *
  generalize D.setIx = SI at *
  simp [h1, h2]
theorem szs_set (P : Nat) (R : List Nat) (i : Nat) (hi : i < R.length) : szs P (R.take (i + 1)) = (szs P (R.take i)).set (R.getD i 0) ((R.take i).count (R.getD i 0) + 1) := by
  apply List.ext_getElem?
  intro p
  by_cases hp : p < P
  · rw [szs_get hp]
    have e : R.take (i + 1) = R.take i ++ [R.getD i 0] := by
      rw [List.take_succ, List.getElem?_eq_getElem hi, List.getD_eq_getElem?_getD, List.getElem?_eq_getElem hi]; rfl
    rw [e, List.count_append]
    by_cases q : R.getD i 0 = p
    · subst q
      rw [List.getElem?_set_self (by rw [szs_len]; exact hp)]
      simp
    · rw [List.getElem?_set_ne q, szs_get hp]
      have : List.count p [R.getD i 0] = 0 := by
        rw [List.count_eq_zero]; simp only [List.mem_singleton]; exact Ne.symm q
      rw [this, Nat.add_zero]
  · rw [List.getElem?_eq_none (by rw [szs_len]; omega), List.getElem?_eq_none (by rw [List.length_set, szs_len]; omega)]
abbrev eG : GD := (gdTup 2 (gdCons (gdName 6) (gdCons (gdName 7) gdNil)))
theorem lf_step (L : List (Nat × Nat)) (R : List Nat) (P : Nat) (hR : R.length = L.length) (hl : L.length ≤ 400) (hv : VT L R) (hP : ∀ x ∈ R, x < P) {i : Nat} (hi : i < L.length) (o1 o3 c6 c7 c8 : Cell) (f6 : c6.free = true) (f7 : c7.free = true) (f8 : c8.free = true) :
    ∃ d8 : Cell, d8.free = true ∧ (eG (.tuple [.int (i : Nat), .int (R.getD i 0 : Nat)]) [.dat (.list (qqD L)), o1, .dat (.int (P : Nat)), o3, .own (dk (KK L R i)), .own (.list (nD (szs P (R.take i)))), c6, c7, c8]).bind b__law_even_1 = some (.nx [.dat (.list (qqD L)), o1, .dat (.int (P : Nat)), o3, .own (dk (KK L R (i + 1))), .own (.list (nD (szs P (R.take (i + 1))))), .dat (.int (i : Nat)), .dat (.int (R.getD i 0 : Nat)), d8]) := by
  have hp : R.getD i 0 < P := hP _ (List.mem_of_getElem? (getD_some (by omega)))
  have e0 : eG (.tuple [.int (i : Nat), .int (R.getD i 0 : Nat)]) [.dat (.list (qqD L)), o1, .dat (.int (P : Nat)), o3, .own (dk (KK L R i)), .own (.list (nD (szs P (R.take i)))), c6, c7, c8] = some [.dat (.list (qqD L)), o1, .dat (.int (P : Nat)), o3, .own (dk (KK L R i)), .own (.list (nD (szs P (R.take i)))), .dat (.int (i : Nat)), .dat (.int (R.getD i 0 : Nat)), c8] := by
    unfold eG
    generalize dk (KK L R i) = a
    generalize nD (szs P (R.take i)) = b
    simp [f6, f7]
  obtain ⟨d8, r8, g2⟩ := lf2_ex L R hR hl hv hi o1 (.dat (.int (P : Nat))) o3 (.own (.list (nD (szs P (R.take i))))) c8 f8
  have g1 := lf1_s (R.getD i 0) P hp (.dat (.list (qqD L))) o1 o3 (.own (dk (KK L R i))) (.own (.list (nD (szs P (R.take i))))) (.dat (.int (i : Nat))) c8
  have g3 := lf3_s (nD (szs P (R.take i))) (nD (szs P (R.take (i + 1)))) (R.getD i 0 : Nat) ((R.take i).count (R.getD i 0) : Nat) (.dat (.list (qqD L))) o1 (.dat (.int (P : Nat))) o3 (.own (dk (KK L R (i + 1)))) (.dat (.int (i : Nat))) d8 (ix_nD (szs_get hp)) (by
    rw [szs_set P R i (by omega), ← nD_set, show (((R.take i).count (R.getD i 0) : Nat) : Int) + 1 = (((R.take i).count (R.getD i 0) + 1 : Nat) : Int) by omega]
    exact setIx_I (by rw [nD_len, szs_len]; exact hp))
  refine ⟨d8, r8, ?_⟩
  rw [e0, Option.bind_some, lf_is]
  exact (dSeq_nx g1).trans ((dSeq_nx g2).trans g3)
theorem le1_s (l r : List D) (h : l.length = r.length) (o2 o3 o4 o5 o6 o7 o8 : Cell) : le1 [.dat (.list l), .dat (.list r), o2, o3, o4, o5, o6, o7, o8] = some (.nx [.dat (.list l), .dat (.list r), o2, o3, o4, o5, o6, o7, o8]) := by
  unfold le1
  have e1 := len_list l
  have e2 := len_list r
  rw [← h] at e2
  have e3 := isi_list_list r
  have e4 : D.ne (.int (l.length : Nat)) (.int (l.length : Nat)) = some (.bool false) := by rw [ne_int]; simp
  generalize D.len = LN at *
  generalize D.isi = II at *
  generalize D.ne = NE at *
  simp [e1, e2, e3, e4]
theorem le2_lc (P : Nat) (o0 o1 o2 o3 o4 o5 o6 o8 : Cell) : dLcGo (gdName 7) dYes (dC (.int 0)) [7] (rangeD 0 P) [o0, o1, o2, o3, o4, o5, o6, .un, o8] = some (nD (szs P []), [o0, o1, o2, o3, o4, o5, o6, .un, o8]) := by
  have h := lc_map0 (el := dC (.int 0)) (i := 7) (n := P) (e := [o0, o1, o2, o3, o4, o5, o6, .un, o8]) (fun j : Nat => .int 0) fun j hj => by simp
  have e : nD (szs P []) = (List.range P).map fun j : Nat => (PyData.int 0 : D) := by
    rw [szs, ← map_nD, List.map_map]; rfl
  rw [e]
  exact h
theorem le2_s (P : Nat) (hP : P ≤ 1000) (N : List D) (o0 o1 o3 : Cell) (h : dLcGo (gdName 7) dYes (dC (.int 0)) [7] (rangeD 0 P) [o0, o1, .dat (.int (P : Nat)), o3, .un, .un, .un, .un, .un] = some (N, [o0, o1, .dat (.int (P : Nat)), o3, .un, .un, .un, .un, .un])) : le2 [o0, o1, .dat (.int (P : Nat)), o3, .un, .un, .un, .un, .un] = some (.nx [o0, o1, .dat (.int (P : Nat)), o3, .own (dk []), .own (.list N), .un, .un, .un]) := by
  unfold le2
  have hr := r1n (b := (P : Int)) (n := P) (by omega) (by omega) (by omega)
  have hl : (rangeD 0 P).length ≤ 16777216 := by rw [rangeD_len]; omega
  generalize range1 = RA at *
  generalize rangeD 0 P = RD at *
  generalize dYes = Y at *
  generalize (dC (.int 0)) = E at *
  simp [h, hr, hl, dk]
theorem le3_s (B : SD) (r Z : List D) (o0 o2 o3 o4 o5 o6 o7 o8 : Cell) (E : HD.Env) (h1 : enum1 [.list r] = some Z) (h : dForGo eG B Z [o0, .dat (.list r), o2, o3, o4, o5, o6, o7, o8] = some (.nx E)) : (dFor (dIT enum1 (dA1 (dVar 1) dA0)) (gdTup 2 (gdCons (gdName 6) (gdCons (gdName 7) gdNil))) B) [o0, .dat (.list r), o2, o3, o4, o5, o6, o7, o8] = some (.nx E) := by
  generalize enum1 = EN at *
  unfold eG at h
  generalize (gdTup 2 (gdCons (gdName 6) (gdCons (gdName 7) gdNil))) = G at *
  simp [h1, h]
theorem le4_s (S S2 : List D) (m k : Int) (hm : m ≤ k) (o0 o1 o2 o4 o6 o7 o8 : Cell) (h1 : D.cat (.list S) (.list [.int 0]) = some (.list S2)) (h2 : D.max1 [.list S2] = some (.int m)) : le4 [o0, o1, o2, .dat (.int k), o4, .own (.list S), o6, o7, o8] = some (.rt (.bool true) [o0, o1, o2, .dat (.int k), o4, .own (.list S), o6, o7, o8]) := by
  unfold le4
  generalize D.cat = CA at *
  generalize D.max1 = MA at *
  simp [h1, h2, hm]
theorem even_true (L : List (Nat × Nat)) (R : List Nat) (P k : Nat) (hR : R.length = L.length) (hl : L.length ≤ 400) (hP0 : P ≤ 1000) (hv : VT L R) (hP : ∀ x ∈ R, x < P) (hk : ∀ p, p < P → R.count p ≤ k) : f__law_even [.list (qqD L), .list (nD R), .int (P : Nat), .int (k : Nat)] = some (.bool true, []) := by
  have g1 := le1_s (qqD L) (nD R) (by rw [qqD_len, nD_len, hR]) (.dat (.int (P : Nat))) (.dat (.int (k : Nat))) .un .un .un .un .un
  have g2 := le2_s P hP0 _ (.dat (.list (qqD L))) (.dat (.list (nD R))) (.dat (.int (k : Nat))) (le2_lc P _ _ _ _ _ _ _ _)
  obtain ⟨e', q, c6, c7, c8, rfl, _, _, _⟩ := for_lst (g := eG) (t := b__law_even_1) (ds := enumD 0 (nD R)) (e := [.dat (.list (qqD L)), .dat (.list (nD R)), .dat (.int (P : Nat)), .dat (.int (k : Nat)), .own (dk []), .own (.list (nD (szs P []))), .un, .un, .un])
    (fun i e => ∃ (c6 c7 c8 : Cell), e = [.dat (.list (qqD L)), .dat (.list (nD R)), .dat (.int (P : Nat)), .dat (.int (k : Nat)), .own (dk (KK L R i)), .own (.list (nD (szs P (R.take i)))), c6, c7, c8] ∧ c6.free = true ∧ c7.free = true ∧ c8.free = true) ⟨.un, .un, .un, rfl, rfl, rfl, rfl⟩ (by
    rintro i d e hd ⟨c6, c7, c8, rfl, f6, f7, f8⟩
    rw [← map_nD, enum_map _ 0, List.getElem?_map, Option.map_eq_some_iff] at hd
    obtain ⟨j, hj, rfl⟩ := hd
    have hi : i < R.length := by
      have := (List.getElem?_eq_some_iff.mp hj).1
      rwa [List.length_range] at this
    rw [List.getElem?_range hi, Option.some.injEq] at hj
    subst hj
    obtain ⟨d8, r8, st⟩ := lf_step L R P hR hl hv hP (i := i) (by omega) (.dat (.list (nD R))) (.dat (.int (k : Nat))) c6 c7 c8 f6 f7 f8
    exact ⟨_, .inl st, .dat (.int (i : Nat)), .dat (.int (R.getD i 0 : Nat)), d8, rfl, rfl, rfl, r8⟩)
  have e1 : (enumD 0 (nD R)).length = R.length := by rw [enumD_len, nD_len]
  rw [e1, List.take_length] at q
  have g3 := le3_s b__law_even_1 (nD R) _ _ _ _ _ _ _ _ _ _ rfl q
  obtain ⟨m, hm, _, e2⟩ := max1_nD (szs P R ++ [0]) (by simp)
  have hmk : m ≤ k := by
    rcases List.mem_append.mp hm with h | h
    · rw [szs, List.mem_map] at h
      obtain ⟨p, hp, rfl⟩ := h
      exact hk p (List.mem_range.mp hp)
    · simp at h; omega
  have g4 := le4_s (nD (szs P R)) _ (m : Nat) (k : Nat) (by omega) (.dat (.list (qqD L))) (.dat (.list (nD R))) (.dat (.int (P : Nat))) (.own (dk (KK L R R.length))) c6 c7 c8 (cat_nD (b := [0]) (by rw [szs_len]; simp; omega)) e2
  rw [le_is]
  exact dFn_rt rfl rfl ((dSeq_nx g1).trans ((dSeq_nx g2).trans ((dSeq_nx (t := le3) g3).trans g4))) rfl
/-! rooms -/
theorem ro_lc (R : List Nat) (o0 : Cell) : dLcGo (gdName 2) dYes (dMet isLst L.count (dVar 1) (dA1 (dVar 2) dA0)) [2] (nD R) [o0, .dat (.list (nD R)), .un] = some (nD (R.map fun p => R.count p), [o0, .dat (.list (nD R)), .un]) := by
  have h := lc_mpG (g := gdName 2) (el := dMet isLst L.count (dVar 1) (dA1 (dVar 2) dA0)) (vs := [2]) (e := [o0, .dat (.list (nD R)), .un]) (fun j : Nat => .int (j : Nat)) (fun j : Nat => .int (R.count j : Nat)) R fun j hj => by
    have e := count_nD j R
    generalize L.count = LC at *
    simp [e]
  have e : nD (R.map fun p => R.count p) = R.map fun j : Nat => (PyData.int (R.count j : Nat) : D) := by
    rw [← map_nD, List.map_map]; rfl
  rw [e]
  rw [map_nD] at h
  exact h
theorem ro_s (E : XD) (l : D) (R N N2 : List D) (m : D) (hl : R.length ≤ 16777216) (h : dLcGo (gdName 2) dYes E [2] R [.dat l, .dat (.list R), .un] = some (N, [.dat l, .dat (.list R), .un])) (h1 : D.cat (.list N) (.list [.int 0]) = some (.list N2)) (h2 : D.max1 [.list N2] = some m) :
    dFn 3 [false, false] ((dRet (dCB D.max1 (dA1 (dN (dBinN D.cat (dN (dLc (dI D.lst? (dVar 1)) (gdName 2) dYes E [2])) (dN (dLst (dA1 (dC (.int 0)) dA0))))) dA0)))) [l, .list R] = some (m, []) := by
  generalize D.cat = CA at *
  generalize D.max1 = MA at *
  generalize dYes = Y at *
  simp [h, h1, h2, hl]
theorem rooms_ex (l : D) (R : List Nat) (hR : R.length ≤ 1000) : ∃ m : Nat, f_rooms_needed [l, .list (nD R)] = some (.int (m : Nat), []) ∧ (∀ p ∈ R, R.count p ≤ m) ∧ (m = 0 ∨ ∃ p ∈ R, R.count p = m) := by
  obtain ⟨m, hm, hm2, e2⟩ := max1_nD (R.map (fun p => R.count p) ++ [0]) (by simp)
  refine ⟨m, ro_s _ l (nD R) _ _ _ (by rw [nD_len]; omega) (ro_lc R _) (cat_nD (b := [0]) (by rw [List.length_map]; simp; omega)) e2, fun p hp => hm2 _ (by simp only [List.mem_append, List.mem_map]; exact .inl ⟨p, hp, rfl⟩), ?_⟩
  rcases List.mem_append.mp hm with h | h
  · obtain ⟨p, hp, rfl⟩ := List.mem_map.mp h
    exact .inr ⟨p, hp, rfl⟩
  · exact .inl (by simpa using h)
def kk (n P : Nat) : Nat := ((List.range n).filter fun x => decide (x % P = 0)).length
theorem kk_1 : ∀ n, n < 11 → ∀ P, P < 8 → n ≤ kk n (P + 1) * (P + 1) := by decide +kernel
theorem kk_2 : ∀ n, n < 11 → ∀ P, P < 8 → 0 < kk n (P + 1) → (kk n (P + 1) - 1) * (P + 1) < n := by decide +kernel
theorem kk_3 : ∀ n : Nat, n < 11 → ∀ P : Nat, P < 8 → 0 < n → -(-(n : Int) / ((P + 1 : Nat) : Int)) = (kk n (P + 1) : Nat) := by decide +kernel
theorem kk_4 : ∀ n, n < 11 → ∀ P, P < 8 → n = 0 → kk n (P + 1) = 0 := by decide +kernel
theorem kk_5 : ∀ n, n < 11 → ∀ P, P < 8 → kk n (P + 1) ≤ n := by decide +kernel
theorem kk_tab (n : Nat) (hn : n < 11) (P : Nat) (hP : P < 9) (h0 : 0 < P) : n ≤ kk n P * P ∧ (0 < kk n P → (kk n P - 1) * P < n) ∧ (0 < n → -(-(n : Int) / (P : Int)) = (kk n P : Nat)) ∧ (n = 0 → kk n P = 0) ∧ kk n P ≤ n := by
  obtain ⟨Q, rfl⟩ : ∃ Q, P = Q + 1 := ⟨P - 1, by omega⟩
  exact ⟨kk_1 n hn Q (by omega), kk_2 n hn Q (by omega), kk_3 n hn Q (by omega), kk_4 n hn Q (by omega), kk_5 n hn Q (by omega)⟩
theorem even_s (l : List D) (P : Int) (z : Int) (h1 : 0 < l.length) (h : D.fdiv (.int (-(l.length : Nat))) (.int P) = some (.int z)) : f_even_rooms [.list l, .int P] = some (.int (-z), []) := by
  unfold f_even_rooms
  generalize D.fdiv = FD at *
  simp [h, h1]
theorem even_0 (P : D) : f_even_rooms [.list [], P] = some (.int 0, []) := by
  unfold f_even_rooms
  generalize D.fdiv = FD at *
  simp
theorem even_eq (L : List (Nat × Nat)) (P : Nat) (hL : L.length < 11) (hP : P < 9) (h0 : 0 < P) : f_even_rooms [.list (qqD L), .int (P : Nat)] = some (.int (kk L.length P : Nat), []) := by
  obtain ⟨_, _, h3, h4, _⟩ := kk_tab L.length hL P hP h0
  by_cases q : 0 < L.length
  · rw [← h3 q]
    have e := even_s (qqD L) (P : Nat) (-(L.length : Nat) / (P : Nat)) (by rw [qqD_len]; exact q) (by rw [qqD_len]; exact fdiv_int (by omega) (by omega))
    exact e
  · have e : L = [] := List.length_eq_zero_iff.mp (by omega)
    rw [h4 (by omega), e]
    exact even_0 _
end K49

namespace K49
open PySem HD CM L2
/-! plans and free periods -/
def go1 : SD := (dSet 1 (dN (dLc (dIT enum1 (dA1 (dVar 0) dA0)) (gdTup 2 (gdCons (gdName 2) (gdCons (gdName 3) gdNil))) (dB (dBin D.notN (dVar 3) (dC .none))) (dVar 2) [2, 3])))
def go2 : SD := (dRet (dIf (dB (dBin D.gt (dCB D.len (dA1 (dVar 1) dA0)) (dC (.int 0)))) (dBin D.sub (dBin D.add (dBin D.sub (dBin D.ix (dVar 1) (dUn D.neg (dC (.int 1)))) (dBin D.ix (dVar 1) (dC (.int 0)))) (dC (.int 1))) (dCB D.len (dA1 (dVar 1) dA0))) (dC (.int 0))))
theorem go_is : f_gaps_of = dFn 4 [false] (dSeq go1 go2) := rfl
def lw1 : SD := (dAsg (dTup (dA1 (dC (.int 0)) (dA1 (dC (.int 0)) (dA1 (dC (.bool false)) dA0)))) (gdTup 3 (gdCons (gdName 2) (gdCons (gdName 3) (gdCons (gdName 4) gdNil)))))
def lw2 : SD := (dFor (dI D.lst? (dVar 0)) (gdName 1) b__law_gaps_1)
def lw3 : SD := (dRet (dVar 2))
theorem lw_is : f__law_gaps = dFn 5 [false] (dSeq lw1 (dSeq lw2 lw3)) := rfl
def oD : Option Nat → D
  | none => .none
  | some x => .int (x : Nat)
def pD (l : List (Option Nat)) : List D := l.map oD
theorem pD_len (l : List (Option Nat)) : (pD l).length = l.length := by rw [pD, List.length_map]
def sd (s : Nat) (q : Nat × Nat) : Nat := if s = 0 then q.1 else q.2
theorem ix_sd {s : Nat} (h : s < 2) (q : Nat × Nat) : D.ix (.tuple [.int (q.1 : Nat), .int (q.2 : Nat)]) (.int (s : Nat)) = some (.int (sd s q : Nat)) := by
  match s, h with
  | 0, _ => exact fst_t _ _
  | 1, _ => exact snd_t _ _
def pst (L : List (Nat × Nat)) (R : List Nat) (s w : Nat) (l : List (Option Nat)) (i : Nat) : List (Option Nat) := if sd s (L.getD i (0, 0)) = w then l.set (R.getD i 0) (some (sd (1 - s) (L.getD i (0, 0)))) else l
def plan (L : List (Nat × Nat)) (R : List Nat) (s w P i : Nat) : List (Option Nat) := (List.range i).foldl (pst L R s w) (List.replicate P none)
theorem plan_succ (L : List (Nat × Nat)) (R : List Nat) (s w P i : Nat) : plan L R s w P (i + 1) = pst L R s w (plan L R s w P i) i := by
  rw [plan, List.range_succ, List.foldl_append]; rfl
theorem pst_len (L : List (Nat × Nat)) (R : List Nat) (s w : Nat) (l : List (Option Nat)) (i : Nat) : (pst L R s w l i).length = l.length := by
  unfold pst
  split
  · rw [List.length_set]
  · rfl
theorem plan_len (L : List (Nat × Nat)) (R : List Nat) (s w P : Nat) : ∀ i, (plan L R s w P i).length = P
  | 0 => by simp [plan]
  | i + 1 => by rw [plan_succ, pst_len, plan_len L R s w P i]
theorem pD_set (l : List (Option Nat)) (i v : Nat) : (pD l).set i (.int (v : Nat)) = pD (l.set i (some v)) := by
  rw [pD, pD, List.map_set]; rfl
theorem plan_get (L : List (Nat × Nat)) (R : List Nat) (s w P : Nat) (hL : ∀ q ∈ L, q.1 < 4 ∧ q.2 < 4) : ∀ i, i ≤ L.length → ∀ x ∈ plan L R s w P i, ∀ v, x = some v → v < 4
  | 0, _, x, hx, v, e => by
    rw [plan] at hx
    have := (List.mem_replicate.mp hx).2
    rw [e] at this; cases this
  | i + 1, hi, x, hx, v, e => by
    rw [plan_succ] at hx
    unfold pst at hx
    split at hx
    · rcases List.mem_or_eq_of_mem_set hx with h | h
      · exact plan_get L R s w P hL i (by omega) x h v e
      · rw [e] at h
        have e2 : L.getD i (0, 0) = L[i] := by rw [List.getD_eq_getElem?_getD, List.getElem?_eq_getElem (by omega)]; rfl
        have := hL _ (List.getElem_mem (show i < L.length by omega))
        rw [Option.some.injEq] at h
        rw [h, e2, sd]
        split
        · exact this.1
        · exact this.2
    · exact plan_get L R s w P hL i (by omega) x hx v e
theorem po_yes (lq x y : D) (S S2 : List D) (r p z : D) (s i s2 : Int) (o0 o4 c6 c7 o8 : Cell) (f6 : c6.free = true) (f7 : c7.free = true) (h1 : D.ix lq (.int s) = some x) (h2 : D.eq x y = some (.bool true)) (hs : 1 - s = s2) (h3 : D.ix lq (.int s2) = some z) (h4 : D.ix r (.int i) = some p) (h5 : D.setIx (.list S) p z = some (.list S2)) :
    (gdTup 2 (gdCons (gdName 6) (gdCons (gdName 7) gdNil)) (.tuple [.int i, lq]) [o0, .dat r, .dat (.int s), .dat y, o4, .own (.list S), c6, c7, o8]).bind b_plan_of_1 = some (.nx [o0, .dat r, .dat (.int s), .dat y, o4, .own (.list S2), .dat (.int i), .dat lq, o8]) := by
  subst hs
  unfold b_plan_of_1
  generalize D.ix = IX at *
  generalize D.eq = EQ at *
  generalize D.setIx = SI at *
  simp [h1, h2, h3, h4, h5, f6, f7]
theorem po_no (lq x y : D) (S : List D) (r : D) (s i : Int) (o0 o4 c6 c7 o8 : Cell) (f6 : c6.free = true) (f7 : c7.free = true) (h1 : D.ix lq (.int s) = some x) (h2 : D.eq x y = some (.bool false)) :
    (gdTup 2 (gdCons (gdName 6) (gdCons (gdName 7) gdNil)) (.tuple [.int i, lq]) [o0, .dat r, .dat (.int s), .dat y, o4, .own (.list S), c6, c7, o8]).bind b_plan_of_1 = some (.nx [o0, .dat r, .dat (.int s), .dat y, o4, .own (.list S), .dat (.int i), .dat lq, o8]) := by
  unfold b_plan_of_1
  generalize D.ix = IX at *
  generalize D.eq = EQ at *
  simp [h1, h2, f6, f7]
abbrev poG : GD := (gdTup 2 (gdCons (gdName 6) (gdCons (gdName 7) gdNil)))
theorem po_step (L : List (Nat × Nat)) (R : List Nat) (s w P i : Nat) (hs : s < 2) (hi : i < R.length) (hP : R.getD i 0 < P) (o0 o4 c6 c7 o8 : Cell) (f6 : c6.free = true) (f7 : c7.free = true) :
    (poG (.tuple [.int (i : Nat), .tuple [.int ((L.getD i (0, 0)).1 : Nat), .int ((L.getD i (0, 0)).2 : Nat)]]) [o0, .dat (.list (nD R)), .dat (.int (s : Nat)), .dat (.int (w : Nat)), o4, .own (.list (pD (plan L R s w P i))), c6, c7, o8]).bind b_plan_of_1 = some (.nx [o0, .dat (.list (nD R)), .dat (.int (s : Nat)), .dat (.int (w : Nat)), o4, .own (.list (pD (plan L R s w P (i + 1)))), .dat (.int (i : Nat)), .dat (.tuple [.int ((L.getD i (0, 0)).1 : Nat), .int ((L.getD i (0, 0)).2 : Nat)]), o8]) := by
  have e1 := ix_sd hs (L.getD i (0, 0))
  have e2 := eq_nat (sd s (L.getD i (0, 0))) w
  rw [plan_succ]
  by_cases q : sd s (L.getD i (0, 0)) = w
  · rw [decide_eq_true q] at e2
    have e3 := ix_sd (s := 1 - s) (by omega) (L.getD i (0, 0))
    refine po_yes _ _ _ _ _ _ _ _ (s : Nat) _ _ _ _ _ _ _ f6 f7 e1 e2 (show (1 : Int) - (s : Nat) = ((1 - s : Nat) : Int) by omega) e3 (ix_nD (getD_some hi)) ?_
    rw [pst, if_pos q, ← pD_set]
    exact setIx_I (by rw [pD_len, plan_len]; exact hP)
  · rw [decide_eq_false q] at e2
    rw [pst, if_neg q]
    exact po_no _ _ _ _ _ (s : Nat) _ _ _ _ _ _ f6 f7 e1 e2
theorem lcn (P : Nat) (o0 o1 o2 o3 o4 o5 o6 o7 : Cell) : dLcGo (gdName 8) dYes (dC .none) [8] (rangeD 0 P) [o0, o1, o2, o3, o4, o5, o6, o7, .un] = some (pD (List.replicate P none), [o0, o1, o2, o3, o4, o5, o6, o7, .un]) := by
  have h := lc_map0 (el := dC .none) (i := 8) (n := P) (e := [o0, o1, o2, o3, o4, o5, o6, o7, .un]) (fun j : Nat => .none) fun j hj => by simp
  have e : pD (List.replicate P none) = (List.range P).map fun j : Nat => (PyData.none : D) := by
    rw [pD, List.map_replicate, List.map_const', List.length_range]; rfl
  rw [e]
  exact h
theorem po_fn (B : SD) (l : List D) (r s w : D) (P : Nat) (hP : P ≤ 1000) (N Z N2 : List D) (c6 c7 : Cell) (h1 : enum1 [.list l] = some Z) (h2 : dLcGo (gdName 8) dYes (dC .none) [8] (rangeD 0 P) [.dat (.list l), .dat r, .dat s, .dat w, .dat (.int (P : Nat)), .un, .un, .un, .un] = some (N, [.dat (.list l), .dat r, .dat s, .dat w, .dat (.int (P : Nat)), .un, .un, .un, .un]))
    (h3 : dForGo poG B Z [.dat (.list l), .dat r, .dat s, .dat w, .dat (.int (P : Nat)), .own (.list N), .un, .un, .un] = some (.nx [.dat (.list l), .dat r, .dat s, .dat w, .dat (.int (P : Nat)), .own (.list N2), c6, c7, .un])) :
    dFnO 9 [false, false, false, false, false]
  ((dSeq (dSetN 5 (dLc (dIA range1 (dA1 (dVar 4) dA0)) (gdName 8) dYes (dC .none) [8]))
  (dSeq (dFor (dIT enum1 (dA1 (dVar 0) dA0)) (gdTup 2 (gdCons (gdName 6) (gdCons (gdName 7) gdNil))) B)
  (dRetV 5)))) [.list l, r, s, w, .int (P : Nat)] = some (.list N2, []) := by
  have hr := r1n (b := (P : Int)) (n := P) (by omega) (by omega) (by omega)
  have hl : (rangeD 0 P).length ≤ 16777216 := by rw [rangeD_len]; omega
  generalize range1 = RA at *
  generalize rangeD 0 P = RD at *
  generalize dYes = Y at *
  generalize (dC PyData.none) = NN at *
  generalize enum1 = EN at *
  unfold poG at h3
  generalize (gdTup 2 (gdCons (gdName 6) (gdCons (gdName 7) gdNil))) = G at *
  simp [hr, hl, h1, h2, h3]
theorem qqD_map (L : List (Nat × Nat)) : qqD L = L.map fun q => (.tuple [.int (q.1 : Nat), .int (q.2 : Nat)] : D) := rfl
theorem plan_eq (L : List (Nat × Nat)) (R : List Nat) (s w P : Nat) (hR : R.length = L.length) (hs : s < 2) (hP0 : P ≤ 1000) (hP : ∀ x ∈ R, x < P) : f_plan_of [.list (qqD L), .list (nD R), .int (s : Nat), .int (w : Nat), .int (P : Nat)] = some (.list (pD (plan L R s w P L.length)), []) := by
  obtain ⟨e', q, c6, c7, rfl, _, _⟩ := for_lst (g := poG) (t := b_plan_of_1) (ds := enumD 0 (qqD L)) (e := [.dat (.list (qqD L)), .dat (.list (nD R)), .dat (.int (s : Nat)), .dat (.int (w : Nat)), .dat (.int (P : Nat)), .own (.list (pD (List.replicate P none))), .un, .un, .un])
    (fun i e => ∃ (c6 c7 : Cell), e = [.dat (.list (qqD L)), .dat (.list (nD R)), .dat (.int (s : Nat)), .dat (.int (w : Nat)), .dat (.int (P : Nat)), .own (.list (pD (plan L R s w P i))), c6, c7, .un] ∧ c6.free = true ∧ c7.free = true) ⟨.un, .un, rfl, rfl, rfl⟩ (by
    rintro i d e hd ⟨c6, c7, rfl, f6, f7⟩
    rw [qqD_map, enum_map _ (0, 0), List.getElem?_map, Option.map_eq_some_iff] at hd
    obtain ⟨j, hj, rfl⟩ := hd
    have hi : i < L.length := by
      have := (List.getElem?_eq_some_iff.mp hj).1
      rwa [List.length_range] at this
    rw [List.getElem?_range hi, Option.some.injEq] at hj
    subst hj
    have st := po_step L R s w P i hs (by omega) (hP _ (List.mem_of_getElem? (getD_some (by omega)))) (.dat (.list (qqD L))) (.dat (.int (P : Nat))) c6 c7 .un f6 f7
    exact ⟨_, .inl st, _, _, rfl, rfl, rfl⟩)
  rw [enumD_len, qqD_len] at q
  exact po_fn b_plan_of_1 (qqD L) _ _ _ P hP0 _ _ _ c6 c7 rfl (lcn P _ _ _ _ _ _ _ _) q
/-! free periods -/
def TK (l : List (Option Nat)) : List Nat := (List.range l.length).filter fun i => (l.getD i none).isSome
def gv (T : List Nat) : Int := (T.getD (T.length - 1) 0 : Nat) - (T.getD 0 0 : Nat) + 1 - (T.length : Nat)
theorem TK_take (l : List (Option Nat)) (i : Nat) (hi : i < l.length) : TK (l.take (i + 1)) = TK (l.take i) ++ if (l.getD i none).isSome = true then [i] else [] := by
  have e1 : (l.take (i + 1)).length = i + 1 := by rw [List.length_take]; omega
  have e2 : (l.take i).length = i := by rw [List.length_take]; omega
  rw [TK, TK, e1, e2, List.range_succ, List.filter_append]
  have g : ∀ j n, j < n → (l.take n).getD j none = l.getD j none := fun j n h => by
    rw [List.getD_eq_getElem?_getD, List.getD_eq_getElem?_getD, List.getElem?_take, if_pos h]
  congr 1
  · apply List.filter_congr
    intro j hj
    rw [List.mem_range] at hj
    rw [g j (i + 1) (by omega), g j i hj]
  · rw [List.filter_cons, g i (i + 1) (by omega)]
    rfl
theorem TK_lt {l : List (Option Nat)} {x : Nat} (h : x ∈ TK l) : x < l.length := List.mem_range.mp (List.mem_filter.mp h).1
theorem last_app (T : List Nat) (i : Nat) : (T ++ [i]).getD ((T ++ [i]).length - 1) 0 = i := by
  rw [List.getD_eq_getElem?_getD, List.length_append, List.length_singleton, Nat.add_sub_cancel, List.getElem?_append_right (Nat.le_refl _), Nat.sub_self]
  rfl
theorem head_app (T : List Nat) (i : Nat) (h : T ≠ []) : (T ++ [i]).getD 0 0 = T.getD 0 0 := by
  cases T with
  | nil => exact (h rfl).elim
  | cons x T => rfl
abbrev goG : GD := (gdTup 2 (gdCons (gdName 2) (gdCons (gdName 3) gdNil)))
theorem go_el (i : Int) (d : D) (o0 o1 : Cell) (v : Bool) (h : D.notN d .none = some (.bool v)) : ∃ e2, (goG (.tuple [.int i, d]) [o0, o1, .un, .un]).bind (dB (dBin D.notN (dVar 3) (dC .none))) = some (v, e2) ∧ (if v = true then ((dVar 2 e2).bind fun q => (q.1.take q.2).bind fun y => (wipeC [2, 3] y.2).map fun e5 => (y.1, e5)) = some (.int i, [o0, o1, .un, .un]) else wipeC [2, 3] e2 = some [o0, o1, .un, .un]) := by
  refine ⟨[o0, o1, .dat (.int i), .dat d], ?_, ?_⟩
  · generalize D.notN = NN at *
    simp [h]
  · cases v <;> simp
theorem go_lc (l : List (Option Nat)) (o0 o1 : Cell) : dLcGo goG (dB (dBin D.notN (dVar 3) (dC .none))) (dVar 2) [2, 3] (enumD 0 (pD l)) [o0, o1, .un, .un] = some (nD (TK l), [o0, o1, .un, .un]) := by
  have h := lc_flG (g := goG) (c := dB (dBin D.notN (dVar 3) (dC .none))) (el := dVar 2) (vs := [2, 3]) (e := [o0, o1, .un, .un]) (fun i : Nat => .tuple [.int (i : Nat), oD (l.getD i none)]) (fun i : Nat => .int (i : Nat)) (fun i => (l.getD i none).isSome) (List.range l.length) (fun i _ => by
    refine go_el _ _ _ _ _ ?_
    cases l.getD i none <;> rfl)
  rw [pD, enum_map oD none]
  rw [map_nD] at h
  exact h
theorem go1_s (C : TD) (E : XD) (l Z N : List D) (h1 : enum1 [.list l] = some Z) (h2 : dLcGo goG C E [2, 3] Z [.dat (.list l), .un, .un, .un] = some (N, [.dat (.list l), .un, .un, .un])) (hl : Z.length ≤ 16777216) : (dSet 1 (dN (dLc (dIT enum1 (dA1 (dVar 0) dA0)) (gdTup 2 (gdCons (gdName 2) (gdCons (gdName 3) gdNil))) C E [2, 3]))) [.dat (.list l), .un, .un, .un] = some (.nx [.dat (.list l), .dat (.list N), .un, .un]) := by
  generalize enum1 = EN at *
  unfold goG at h2
  generalize (gdTup 2 (gdCons (gdName 2) (gdCons (gdName 3) gdNil))) = G at *
  simp [h1, h2, hl]
theorem go2_0 (o0 o2 o3 : Cell) : go2 [o0, .dat (.list []), o2, o3] = some (.rt (.int 0) [o0, .dat (.list []), o2, o3]) := by
  unfold go2
  generalize D.ix = IX at *
  simp
theorem go2_1 (T : List D) (n : Nat) (a b : Int) (hn : 0 < n) (o0 o2 o3 : Cell) (h : D.len [.list T] = some (.int (n : Nat))) (h1 : D.ix (.list T) (.int (-1)) = some (.int a)) (h2 : D.ix (.list T) (.int 0) = some (.int b)) : go2 [o0, .dat (.list T), o2, o3] = some (.rt (.int (a - b + 1 - (n : Nat))) [o0, .dat (.list T), o2, o3]) := by
  unfold go2
  generalize D.ix = IX at *
  generalize D.len = LN at *
  simp [h, h1, h2, hn]
theorem gaps_eq (l : List (Option Nat)) (hl : l.length ≤ 1000) : f_gaps_of [.list (pD l)] = some (.int (if TK l = [] then 0 else gv (TK l)), []) := by
  have g1 : go1 [.dat (.list (pD l)), .un, .un, .un] = _ := go1_s _ _ (pD l) _ _ rfl (go_lc l _ _) (by rw [enumD_len, pD_len]; omega)
  rw [go_is]
  by_cases q : TK l = []
  · rw [q] at g1
    rw [if_pos q]
    exact dFn_rt rfl rfl ((dSeq_nx g1).trans (go2_0 _ _ _)) rfl
  · rw [if_neg q]
    have h0 := List.length_pos_iff.mpr q
    have g2 := go2_1 (nD (TK l)) (TK l).length _ _ h0 (.dat (.list (pD l))) .un .un (len_nD _) (ix_neg_nD (k := 1) (by omega) (by omega) (getD_some (by omega))) (ix_nD (i := 0) (getD_some h0))
    exact dFn_rt rfl rfl ((dSeq_nx g1).trans g2) rfl
theorem lw_none (o0 c1 o2 o4 : Cell) (w : Int) (f1 : c1.free = true) : (gdName 1 .none [o0, c1, o2, .dat (.int w), o4]).bind b__law_gaps_1 = some (.nx [o0, .dat .none, o2, .dat (.int (w + 1)), o4]) := by
  unfold b__law_gaps_1
  simp [f1]
theorem lw_some (o0 c1 : Cell) (x f w : Int) (b : Bool) (f1 : c1.free = true) : (gdName 1 (.int x) [o0, c1, .dat (.int f), .dat (.int w), .dat (.bool b)]).bind b__law_gaps_1 = some (.nx [o0, .dat (.int x), .dat (.int (f + if b = true then w else 0)), .dat (.int 0), .dat (.bool true)]) := by
  unfold b__law_gaps_1
  cases b <;> simp [f1]
theorem lw1_s (o0 : Cell) : lw1 [o0, .un, .un, .un, .un] = some (.nx [o0, .un, .dat (.int 0), .dat (.int 0), .dat (.bool false)]) := by
  unfold lw1
  simp
theorem lw2_s (B : SD) (l : List D) (o1 o2 o3 o4 : Cell) (E : HD.Env) (h : dForGo (gdName 1) B l [.dat (.list l), o1, o2, o3, o4] = some (.nx E)) : (dFor (dI D.lst? (dVar 0)) (gdName 1) B) [.dat (.list l), o1, o2, o3, o4] = some (.nx E) := by
  simp [h]
theorem lw3_s (o0 o1 o3 o4 : Cell) (d : D) : lw3 [o0, o1, .dat d, o3, o4] = some (.rt d [o0, o1, .dat d, o3, o4]) := by
  unfold lw3
  simp
theorem lgaps_ex (l : List (Option Nat)) (hl : l.length ≤ 1000) : ∃ f : Nat, f ≤ l.length ∧ f__law_gaps [.list (pD l)] = some (.int (f : Nat), []) ∧ f_gaps_of [.list (pD l)] = some (.int (f : Nat), []) := by
  obtain ⟨e', q, c1, f, w, b, rfl, _, hfw, hb⟩ := for_lst (g := gdName 1) (t := b__law_gaps_1) (ds := pD l) (e := [.dat (.list (pD l)), .un, .dat (.int 0), .dat (.int 0), .dat (.bool false)])
    (fun i e => ∃ (c1 : Cell) (f w : Nat) (b : Bool), e = [.dat (.list (pD l)), c1, .dat (.int (f : Nat)), .dat (.int (w : Nat)), .dat (.bool b)] ∧ c1.free = true ∧ f + w ≤ i ∧ ((b = false ∧ TK (l.take i) = [] ∧ f = 0) ∨ (b = true ∧ TK (l.take i) ≠ [] ∧ (f : Int) = gv (TK (l.take i)) ∧ w + 1 + (TK (l.take i)).getD ((TK (l.take i)).length - 1) 0 = i)))
    ⟨.un, 0, 0, false, rfl, rfl, Nat.le_refl _, .inl ⟨rfl, by rw [List.take_zero]; rfl, rfl⟩⟩ (by
    rintro i d e hd ⟨c1, f, w, b, rfl, f1, hfw, hb⟩
    rw [pD, List.getElem?_map, Option.map_eq_some_iff] at hd
    obtain ⟨x, hx, rfl⟩ := hd
    have hi := (List.getElem?_eq_some_iff.mp hx).1
    have ex : l.getD i none = x := by rw [List.getD_eq_getElem?_getD, hx]; rfl
    have tk := TK_take l i hi
    rw [ex] at tk
    cases x with
    | none =>
      rw [if_neg (by decide), List.append_nil] at tk
      refine ⟨_, .inl (lw_none _ c1 _ _ (w : Nat) f1), .dat .none, f, w + 1, b, rfl, rfl, by omega, ?_⟩
      rw [tk]
      rcases hb with h | ⟨h1, h2, h3, h4⟩
      · exact .inl h
      · exact .inr ⟨h1, h2, h3, by omega⟩
    | some v =>
      rw [if_pos (show (some v).isSome = true from rfl)] at tk
      have ne : TK (l.take (i + 1)) ≠ [] := by rw [tk]; simp
      rcases hb with ⟨rfl, h2, rfl⟩ | ⟨rfl, h2, h3, h4⟩
      · refine ⟨_, .inl (lw_some _ c1 (v : Nat) ((0 : Nat) : Int) (w : Nat) false f1), .dat (.int (v : Nat)), 0, 0, true, rfl, rfl, by omega, .inr ⟨rfl, ne, ?_, ?_⟩⟩
        · rw [tk, h2]
          show ((0 : Nat) : Int) = ((i : Nat) : Int) - (i : Nat) + 1 - ((1 : Nat) : Int)
          omega
        · rw [tk, last_app]; omega
      · refine ⟨_, .inl (lw_some _ c1 (v : Nat) (f : Nat) (w : Nat) true f1), .dat (.int (v : Nat)), f + w, 0, true, ?_, rfl, by omega, .inr ⟨rfl, ne, ?_, ?_⟩⟩
        · rw [if_pos rfl, show ((f : Nat) : Int) + (w : Nat) = ((f + w : Nat) : Int) by omega]; rfl
        · rw [tk, gv, last_app, head_app _ _ h2, List.length_append, List.length_singleton]
          unfold gv at h3
          have := List.length_pos_iff.mpr h2
          omega
        · rw [tk, last_app]; omega)
  rw [pD_len] at hfw hb
  rw [List.take_length] at hb
  have g2 := lw2_s b__law_gaps_1 (pD l) _ _ _ _ _ q
  refine ⟨f, by omega, ?_, ?_⟩
  · rw [lw_is]
    exact dFn_rt rfl rfl ((dSeq_nx (lw1_s _)).trans ((dSeq_nx (t := lw2) g2).trans (lw3_s _ _ _ _ _))) rfl
  · rw [gaps_eq l hl]
    rcases hb with ⟨_, h2, h3⟩ | ⟨_, h2, h3, _⟩
    · rw [if_pos h2, h3]; rfl
    · rw [if_neg h2, h3]
end K49

namespace K49
open PySem HD CM L2
/-! the law's statements -/
def lb1 : SD := (dSet 3 (dBin D.add (dC (.int 1)) (dCall [true, false] f__law_draw (dA1 (dVar 1) (dA1 (dC (.int 6)) dA0)))))
def lb2 : SD := (dSet 4 (dCall [true, false] f__law_placed (dA1 (dVar 1) (dA1 (dVar 3) dA0))))
def lb3 : SD := (dSet 5 (dN (dLc (dI D.lst? (dVar 4)) (gdTup 3 (gdCons (gdName 19) (gdCons (gdName 20) (gdCons (gdName 18) gdNil)))) dYes (dTup (dA1 (dVar 19) (dA1 (dVar 20) dA0))) [19, 20, 18])))
def lb4 : SD := (dSet 6 (dN (dLc (dI D.lst? (dVar 4)) (gdTup 3 (gdCons (gdName 19) (gdCons (gdName 20) (gdCons (gdName 18) gdNil)))) dYes (dVar 18) [19, 20, 18])))
def lb5 : SD := (dPar 15 16 (dA1 (dN (dCBN D.list1 (dA1 (dVar 5) dA0))) (dA1 (dN (dCBN D.list1 (dA1 (dVar 6) dA0))) dA0)))
def lb6 : SD := (dSet 7 (dCB D.len (dA1 (dVar 5) dA0)))
def lb7 : SD := (dSet 8 (dN (dLc (dIA range1 (dA1 (dVar 3) dA0)) (gdName 18) dYes (dCB D.len (dA1 (dN (dLc (dI D.lst? (dVar 6)) (gdName 20) (dB (dBin D.eq (dVar 20) (dVar 18))) (dC (.int 1)) [20])) dA0)) [18])))
def lb8 : SD := (dIfS (dNot (dTr (dCall [false, false] f__law_same (dA1 (dCall [false, false] f_rooms_needed (dA1 (dVar 15) (dA1 (dVar 16) dA0))) (dA1 (dCB D.max1 (dA1 (dVar 8) dA0)) dA0))))) (dRet (dC (.bool false))) dNx)
def lb9 : SD := (dSet 9 (dCB D.len (dA1 (dN (dLc (dIA range1 (dA1 (dVar 7) dA0)) (gdName 21) (dB (dBin D.eq (dBin D.mod (dCB D.int1 (dA1 (dVar 21) dA0)) (dVar 3)) (dC (.int 0)))) (dC (.int 1)) [21])) dA0)))
def lb10 : SD := (dIfS (dNot (dTr (dCall [false, false] f__law_same (dA1 (dCall [false, false] f_even_rooms (dA1 (dVar 15) (dA1 (dVar 3) dA0))) (dA1 (dVar 9) dA0))))) (dRet (dC (.bool false))) dNx)
def lb11 : SD := (dSet 10 (dBin D.add (dVar 3) (dCall [true, false] f__law_draw (dA1 (dVar 1) (dA1 (dC (.int 3)) dA0)))))
def lb12 : SD := (dFor (dI D.lst? (dN (dLst (dA1 (dVar 3) (dA1 (dVar 10) dA0))))) (gdName 11) b_law_2)
def lb13 : SD := (dFor (dI D.lst? (dN (dLst (dA1 (dC (.int 0)) (dA1 (dC (.int 1)) dA0))))) (gdName 12) b_law_3)
def lb14 : SD := (dSetN 13 (dLc (dIA range1 (dA1 (dCall [true, false] f__law_draw (dA1 (dVar 1) (dA1 (dC (.int 10)) dA0))) dA0)) (gdName 18) dYes (dCall [true, false] f__law_pick (dA1 (dVar 1) (dA1 (dN (dLst (dA1 (dC .none) (dA1 (dC .none) (dA1 (dC (.int 0)) (dA1 (dC (.int 3)) (dA1 (dC .none) dA0))))))) dA0))) [18]))
def lb15 : SD := (dSetN 14 (dCBN D.list1 (dA1 (dVar 13) dA0)))
def lb16 : SD := (dIfS (dOr (dNot (dTr (dCall [false, false] f__law_same (dA1 (dCallB [false] f_gaps_of (dA1 (dVar 14) dA0)) (dA1 (dCallB [false] f__law_gaps (dA1 (dVar 13) dA0)) dA0))))) (dB (dBin D.ne (dVar 14) (dVar 13)))) (dRet (dC (.bool false))) dNx)
theorem lb_is : b_law_1 = (dSeq lb1 (dSeq lb2 (dSeq lb3 (dSeq lb4 (dSeq lb5 (dSeq lb6 (dSeq lb7 (dSeq lb8 (dSeq lb9 (dSeq lb10 (dSeq lb11 (dSeq lb12 (dSeq lb13 (dSeq lb14 (dSeq lb15 lb16))))))))))))))) := rfl
section
variable {c0 c1 c2 c3 c4 c5 c6 c7 c8 c9 c10 c11 c12 c13 c14 c15 c16 c17 c18 c19 c20 c21 : Cell}
theorem lb1_s (F : List D → Option (D × List D)) (b b2 : D) (d : Nat) (P : Int) (hP : (1 : Int) + (d : Nat) = P) (f3 : c3.free = true) (h : F [b, .int 6] = some (.int (d : Nat), [b2])) : (dSet 3 (dBin D.add (dC (.int 1)) (dCall [true, false] F (dA1 (dVar 1) (dA1 (dC (.int 6)) dA0))))) [c0, .own b, c2, c3, c4, c5, c6, c7, c8, c9, c10, c11, c12, c13, c14, c15, c16, c17, c18, c19, c20, c21] = some (.nx [c0, .own b2, c2, .dat (.int P), c4, c5, c6, c7, c8, c9, c10, c11, c12, c13, c14, c15, c16, c17, c18, c19, c20, c21]) := by
  subst hP
  simp [h, f3]
theorem lb2_s (F : List D → Option (D × List D)) (b b2 p z : D) (f4 : c4.free = true) (h : F [b, p] = some (z, [b2])) : (dSet 4 (dCall [true, false] F (dA1 (dVar 1) (dA1 (dVar 3) dA0)))) [c0, .own b, c2, .dat p, c4, c5, c6, c7, c8, c9, c10, c11, c12, c13, c14, c15, c16, c17, c18, c19, c20, c21] = some (.nx [c0, .own b2, c2, .dat p, .dat z, c5, c6, c7, c8, c9, c10, c11, c12, c13, c14, c15, c16, c17, c18, c19, c20, c21]) := by
  simp [h, f4]
abbrev tG : GD := (gdTup 3 (gdCons (gdName 19) (gdCons (gdName 20) (gdCons (gdName 18) gdNil))))
def lesn (l : List (Nat × Nat × Nat)) : List (Nat × Nat) := l.map fun q => (q.1, q.2.1)
def rown (l : List (Nat × Nat × Nat)) : List Nat := l.map fun q => q.2.2
theorem lb3_lc (l : List (Nat × Nat × Nat)) : dLcGo tG dYes (dTup (dA1 (dVar 19) (dA1 (dVar 20) dA0))) [19, 20, 18] (l.map tri) [c0, c1, c2, c3, c4, c5, c6, c7, c8, c9, c10, c11, c12, c13, c14, c15, c16, c17, .un, .un, .un, c21] = some (qqD (lesn l), [c0, c1, c2, c3, c4, c5, c6, c7, c8, c9, c10, c11, c12, c13, c14, c15, c16, c17, .un, .un, .un, c21]) := by
  have h := lc_mpG (g := tG) (el := dTup (dA1 (dVar 19) (dA1 (dVar 20) dA0))) (vs := [19, 20, 18]) (e := [c0, c1, c2, c3, c4, c5, c6, c7, c8, c9, c10, c11, c12, c13, c14, c15, c16, c17, .un, .un, .un, c21]) tri (fun q => .tuple [.int (q.1 : Nat), .int (q.2.1 : Nat)]) l fun q _ => by simp [tri, tG]
  have e : qqD (lesn l) = l.map fun q => (.tuple [.int (q.1 : Nat), .int (q.2.1 : Nat)] : D) := by rw [qqD, lesn, List.map_map]; rfl
  rw [e]
  exact h
theorem lb4_lc (l : List (Nat × Nat × Nat)) : dLcGo tG dYes (dVar 18) [19, 20, 18] (l.map tri) [c0, c1, c2, c3, c4, c5, c6, c7, c8, c9, c10, c11, c12, c13, c14, c15, c16, c17, .un, .un, .un, c21] = some (nD (rown l), [c0, c1, c2, c3, c4, c5, c6, c7, c8, c9, c10, c11, c12, c13, c14, c15, c16, c17, .un, .un, .un, c21]) := by
  have h := lc_mpG (g := tG) (el := dVar 18) (vs := [19, 20, 18]) (e := [c0, c1, c2, c3, c4, c5, c6, c7, c8, c9, c10, c11, c12, c13, c14, c15, c16, c17, .un, .un, .un, c21]) tri (fun q => .int (q.2.2 : Nat)) l fun q _ => by simp [tri, tG]
  have e : nD (rown l) = l.map fun q => (.int (q.2.2 : Nat) : D) := by rw [← map_nD, rown, List.map_map]; rfl
  rw [e]
  exact h
theorem lb3_s (E : XD) (l N : List D) (f5 : c5.free = true) (n18 : nown c18) (hl : l.length ≤ 16777216) (h : dLcGo tG dYes E [19, 20, 18] l [c0, c1, c2, c3, .dat (.list l), c5, c6, c7, c8, c9, c10, c11, c12, c13, c14, c15, c16, c17, .un, .un, .un, c21] = some (N, [c0, c1, c2, c3, .dat (.list l), c5, c6, c7, c8, c9, c10, c11, c12, c13, c14, c15, c16, c17, .un, .un, .un, c21])) :
    (dSet 5 (dN (dLc (dI D.lst? (dVar 4)) (gdTup 3 (gdCons (gdName 19) (gdCons (gdName 20) (gdCons (gdName 18) gdNil)))) dYes E [19, 20, 18]))) [c0, c1, c2, c3, .dat (.list l), c5, c6, c7, c8, c9, c10, c11, c12, c13, c14, c15, c16, c17, c18, .un, .un, c21] = some (.nx [c0, c1, c2, c3, .dat (.list l), .dat (.list N), c6, c7, c8, c9, c10, c11, c12, c13, c14, c15, c16, c17, c18, .un, .un, c21]) := by
  unfold tG at h
  generalize (gdTup 3 (gdCons (gdName 19) (gdCons (gdName 20) (gdCons (gdName 18) gdNil)))) = G at *
  generalize dYes = Y at *
  rcases n18 with rfl | ⟨d, rfl⟩
  · simp [h, hl, f5]
  · simp [h, hl, f5]
theorem lb4_s (E : XD) (l N : List D) (f6 : c6.free = true) (n18 : nown c18) (hl : l.length ≤ 16777216) (h : dLcGo tG dYes E [19, 20, 18] l [c0, c1, c2, c3, .dat (.list l), c5, c6, c7, c8, c9, c10, c11, c12, c13, c14, c15, c16, c17, .un, .un, .un, c21] = some (N, [c0, c1, c2, c3, .dat (.list l), c5, c6, c7, c8, c9, c10, c11, c12, c13, c14, c15, c16, c17, .un, .un, .un, c21])) :
    (dSet 6 (dN (dLc (dI D.lst? (dVar 4)) (gdTup 3 (gdCons (gdName 19) (gdCons (gdName 20) (gdCons (gdName 18) gdNil)))) dYes E [19, 20, 18]))) [c0, c1, c2, c3, .dat (.list l), c5, c6, c7, c8, c9, c10, c11, c12, c13, c14, c15, c16, c17, c18, .un, .un, c21] = some (.nx [c0, c1, c2, c3, .dat (.list l), c5, .dat (.list N), c7, c8, c9, c10, c11, c12, c13, c14, c15, c16, c17, c18, .un, .un, c21]) := by
  unfold tG at h
  generalize (gdTup 3 (gdCons (gdName 19) (gdCons (gdName 20) (gdCons (gdName 18) gdNil)))) = G at *
  generalize dYes = Y at *
  rcases n18 with rfl | ⟨d, rfl⟩
  · simp [h, hl, f6]
  · simp [h, hl, f6]
theorem lb5_s (l r : List D) (f15 : c15.free = true) (f16 : c16.free = true) : lb5 [c0, c1, c2, c3, c4, .dat (.list l), .dat (.list r), c7, c8, c9, c10, c11, c12, c13, c14, c15, c16, c17, c18, c19, c20, c21] = some (.nx [c0, c1, c2, c3, c4, .dat (.list l), .dat (.list r), c7, c8, c9, c10, c11, c12, c13, c14, .dat (.list l), .dat (.list r), c17, c18, c19, c20, c21]) := by
  unfold lb5
  have e : ∀ x : List D, D.list1 [.list x] = some (.list x) := fun _ => rfl
  generalize D.list1 = LI at *
  simp [e, f15, f16]
theorem lb6_s (l z : D) (f7 : c7.free = true) (h : D.len [l] = some z) : lb6 [c0, c1, c2, c3, c4, .dat l, c6, c7, c8, c9, c10, c11, c12, c13, c14, c15, c16, c17, c18, c19, c20, c21] = some (.nx [c0, c1, c2, c3, c4, .dat l, c6, .dat z, c8, c9, c10, c11, c12, c13, c14, c15, c16, c17, c18, c19, c20, c21]) := by
  unfold lb6
  generalize D.len = LN at *
  simp [h, f7]
abbrev c7C : TD := (dB (dBin D.eq (dVar 20) (dVar 18)))
theorem count_flt (R : List Nat) (p : Nat) : (R.filter fun x => decide (x = p)).length = R.count p := by
  rw [List.count, List.countP_eq_length_filter]
  rfl
theorem lb7_in (R : List Nat) (p : Nat) : dLcGo (gdName 20) c7C (dC (.int 1)) [20] (nD R) [c0, c1, c2, c3, c4, c5, .dat (.list (nD R)), c7, c8, c9, c10, c11, c12, c13, c14, c15, c16, c17, .dat (.int (p : Nat)), c19, .un, c21] = some ((R.filter fun x => decide (x = p)).map fun _ => .int 1, [c0, c1, c2, c3, c4, c5, .dat (.list (nD R)), c7, c8, c9, c10, c11, c12, c13, c14, c15, c16, c17, .dat (.int (p : Nat)), c19, .un, c21]) := by
  refine lc_nD (c := c7C) (el := dC (.int 1)) (i := 20) (e := [c0, c1, c2, c3, c4, c5, .dat (.list (nD R)), c7, c8, c9, c10, c11, c12, c13, c14, c15, c16, c17, .dat (.int (p : Nat)), c19, .un, c21]) (fun x => decide (x = p)) (fun _ : Nat => .int 1) R fun j hj => ?_
  refine ⟨[c0, c1, c2, c3, c4, c5, .dat (.list (nD R)), c7, c8, c9, c10, c11, c12, c13, c14, c15, c16, c17, .dat (.int (p : Nat)), c19, .dat (.int (j : Nat)), c21], ?_, ?_⟩
  · have e := eq_nat j p
    unfold c7C
    generalize D.eq = EQ at *
    generalize nD R = W
    simp [e]
  · generalize nD R = W
    split <;> simp
theorem lb7_el (C : TD) (R N : List D) (p z : D) (hl : R.length ≤ 16777216) (h : dLcGo (gdName 20) C (dC (.int 1)) [20] R [c0, c1, c2, c3, c4, c5, .dat (.list R), c7, c8, c9, c10, c11, c12, c13, c14, c15, c16, c17, .dat p, c19, .un, c21] = some (N, [c0, c1, c2, c3, c4, c5, .dat (.list R), c7, c8, c9, c10, c11, c12, c13, c14, c15, c16, c17, .dat p, c19, .un, c21])) (h2 : D.len [.list N] = some z) :
    (gdName 18 p [c0, c1, c2, c3, c4, c5, .dat (.list R), c7, c8, c9, c10, c11, c12, c13, c14, c15, c16, c17, .un, c19, .un, c21]).bind (fun e1 => (dCB D.len (dA1 (dN (dLc (dI D.lst? (dVar 6)) (gdName 20) C (dC (.int 1)) [20])) dA0) e1).bind fun q => (q.1.take q.2).bind fun y => (wipeC [18] y.2).map fun e5 => (y.1, e5)) = some (z, [c0, c1, c2, c3, c4, c5, .dat (.list R), c7, c8, c9, c10, c11, c12, c13, c14, c15, c16, c17, .un, c19, .un, c21]) := by
  generalize D.len = LN at *
  simp [h, h2, hl]
theorem lb7_lc (R : List Nat) (hR : R.length ≤ 1000) (P : Nat) : dLcGo (gdName 18) dYes (dCB D.len (dA1 (dN (dLc (dI D.lst? (dVar 6)) (gdName 20) c7C (dC (.int 1)) [20])) dA0)) [18] (rangeD 0 P) [c0, c1, c2, c3, c4, c5, .dat (.list (nD R)), c7, c8, c9, c10, c11, c12, c13, c14, c15, c16, c17, .un, c19, .un, c21] = some (nD (szs P R), [c0, c1, c2, c3, c4, c5, .dat (.list (nD R)), c7, c8, c9, c10, c11, c12, c13, c14, c15, c16, c17, .un, c19, .un, c21]) := by
  have h := lc_map0 (el := (dCB D.len (dA1 (dN (dLc (dI D.lst? (dVar 6)) (gdName 20) c7C (dC (.int 1)) [20])) dA0))) (i := 18) (n := P) (e := [c0, c1, c2, c3, c4, c5, .dat (.list (nD R)), c7, c8, c9, c10, c11, c12, c13, c14, c15, c16, c17, .un, c19, .un, c21]) (fun j : Nat => .int (R.count j : Nat)) fun j hj =>
    lb7_el c7C (nD R) _ _ _ (by rw [nD_len]; omega) (lb7_in R j) (by rw [len_list, List.length_map, count_flt])
  have e : nD (szs P R) = (List.range P).map fun j : Nat => (PyData.int (R.count j : Nat) : D) := by
    rw [szs, ← map_nD, List.map_map]; rfl
  rw [e]
  exact h
theorem lb7_s (E : XD) (P : Nat) (hP : P ≤ 1000) (N : List D) (f8 : c8.free = true) (n18 : nown c18) (h : dLcGo (gdName 18) dYes E [18] (rangeD 0 P) [c0, c1, c2, .dat (.int (P : Nat)), c4, c5, c6, c7, c8, c9, c10, c11, c12, c13, c14, c15, c16, c17, .un, c19, .un, c21] = some (N, [c0, c1, c2, .dat (.int (P : Nat)), c4, c5, c6, c7, c8, c9, c10, c11, c12, c13, c14, c15, c16, c17, .un, c19, .un, c21])) : (dSet 8 (dN (dLc (dIA range1 (dA1 (dVar 3) dA0)) (gdName 18) dYes E [18]))) [c0, c1, c2, .dat (.int (P : Nat)), c4, c5, c6, c7, c8, c9, c10, c11, c12, c13, c14, c15, c16, c17, c18, c19, .un, c21] = some (.nx [c0, c1, c2, .dat (.int (P : Nat)), c4, c5, c6, c7, .dat (.list N), c9, c10, c11, c12, c13, c14, c15, c16, c17, c18, c19, .un, c21]) := by
  have hr := r1n (b := (P : Int)) (n := P) (by omega) (by omega) (by omega)
  have hl : (rangeD 0 P).length ≤ 16777216 := by rw [rangeD_len]; omega
  generalize range1 = RA at *
  generalize rangeD 0 P = RD at *
  generalize dYes = Y at *
  rcases n18 with rfl | ⟨d, rfl⟩
  · simp [h, hl, f8, hr]
  · simp [h, hl, f8, hr]
theorem lb8_s (F S : List D → Option (D × List D)) (l r : D) (z : List D) (m : D) (h1 : F [l, r] = some (m, [])) (h2 : D.max1 [.list z] = some m) (h3 : S [m, m] = some (.bool true, [])) : (dIfS (dNot (dTr (dCall [false, false] S (dA1 (dCall [false, false] F (dA1 (dVar 15) (dA1 (dVar 16) dA0))) (dA1 (dCB D.max1 (dA1 (dVar 8) dA0)) dA0))))) (dRet (dC (.bool false))) dNx) [c0, c1, c2, c3, c4, c5, c6, c7, .dat (.list z), c9, c10, c11, c12, c13, c14, .dat l, .dat r, c17, c18, c19, c20, c21] = some (.nx [c0, c1, c2, c3, c4, c5, c6, c7, .dat (.list z), c9, c10, c11, c12, c13, c14, .dat l, .dat r, c17, c18, c19, c20, c21]) := by
  generalize D.max1 = MA at *
  simp [h1, h2, h3]
/-- how many places are the first of a round -/
abbrev mC (s : Nat) : TD := (dB (dBin D.eq (dBin D.mod (dCB D.int1 (dA1 (dVar 21) dA0)) (dVar s)) (dC (.int 0))))
theorem mC_lc (n P : Nat) (hP : 0 < P) : dLcGo (gdName 21) (mC 3) (dC (.int 1)) [21] (rangeD 0 n) [c0, c1, c2, .dat (.int (P : Nat)), c4, c5, c6, c7, c8, c9, c10, c11, c12, c13, c14, c15, c16, c17, c18, c19, c20, .un] = some (((List.range n).filter fun x => decide (x % P = 0)).map fun _ => .int 1, [c0, c1, c2, .dat (.int (P : Nat)), c4, c5, c6, c7, c8, c9, c10, c11, c12, c13, c14, c15, c16, c17, c18, c19, c20, .un]) := by
  refine lc_filter0 (c := mC 3) (el := dC (.int 1)) (i := 21) (n := n) (e := [c0, c1, c2, .dat (.int (P : Nat)), c4, c5, c6, c7, c8, c9, c10, c11, c12, c13, c14, c15, c16, c17, c18, c19, c20, .un]) (fun x => decide (x % P = 0)) (fun _ : Nat => .int 1) fun j hj => ?_
  refine ⟨[c0, c1, c2, .dat (.int (P : Nat)), c4, c5, c6, c7, c8, c9, c10, c11, c12, c13, c14, c15, c16, c17, c18, c19, c20, .dat (.int (j : Nat))], ?_, ?_⟩
  · have e := mod_nat j P hP
    have e2 : D.eq (.int ((j % P : Nat) : Int)) (.int 0) = some (.bool (decide (j % P = 0))) := eq_nat _ 0
    unfold mC
    generalize D.eq = EQ at *
    generalize D.mod = MO at *
    generalize j % P = r at *
    simp [e, e2]
  · split <;> simp
theorem mC_lc2 (n P : Nat) (hP : 0 < P) : dLcGo (gdName 21) (mC 11) (dC (.int 1)) [21] (rangeD 0 n) [c0, c1, c2, c3, c4, c5, c6, c7, c8, c9, c10, .dat (.int (P : Nat)), c12, c13, c14, c15, c16, c17, c18, c19, c20, .un] = some (((List.range n).filter fun x => decide (x % P = 0)).map fun _ => .int 1, [c0, c1, c2, c3, c4, c5, c6, c7, c8, c9, c10, .dat (.int (P : Nat)), c12, c13, c14, c15, c16, c17, c18, c19, c20, .un]) := by
  refine lc_filter0 (c := mC 11) (el := dC (.int 1)) (i := 21) (n := n) (e := [c0, c1, c2, c3, c4, c5, c6, c7, c8, c9, c10, .dat (.int (P : Nat)), c12, c13, c14, c15, c16, c17, c18, c19, c20, .un]) (fun x => decide (x % P = 0)) (fun _ : Nat => .int 1) fun j hj => ?_
  refine ⟨[c0, c1, c2, c3, c4, c5, c6, c7, c8, c9, c10, .dat (.int (P : Nat)), c12, c13, c14, c15, c16, c17, c18, c19, c20, .dat (.int (j : Nat))], ?_, ?_⟩
  · have e := mod_nat j P hP
    have e2 : D.eq (.int ((j % P : Nat) : Int)) (.int 0) = some (.bool (decide (j % P = 0))) := eq_nat _ 0
    unfold mC
    generalize D.eq = EQ at *
    generalize D.mod = MO at *
    generalize j % P = r at *
    simp [e, e2]
  · split <;> simp
theorem most_s (C : TD) (n : Nat) (hn : n ≤ 1000) (N : List D) (z : D) (f9 : c9.free = true) (n21 : nown c21) (h : dLcGo (gdName 21) C (dC (.int 1)) [21] (rangeD 0 n) [c0, c1, c2, c3, c4, c5, c6, .dat (.int (n : Nat)), c8, c9, c10, c11, c12, c13, c14, c15, c16, c17, c18, c19, c20, .un] = some (N, [c0, c1, c2, c3, c4, c5, c6, .dat (.int (n : Nat)), c8, c9, c10, c11, c12, c13, c14, c15, c16, c17, c18, c19, c20, .un])) (h2 : D.len [.list N] = some z) :
    (dSet 9 (dCB D.len (dA1 (dN (dLc (dIA range1 (dA1 (dVar 7) dA0)) (gdName 21) C (dC (.int 1)) [21])) dA0))) [c0, c1, c2, c3, c4, c5, c6, .dat (.int (n : Nat)), c8, c9, c10, c11, c12, c13, c14, c15, c16, c17, c18, c19, c20, c21] = some (.nx [c0, c1, c2, c3, c4, c5, c6, .dat (.int (n : Nat)), c8, .dat z, c10, c11, c12, c13, c14, c15, c16, c17, c18, c19, c20, c21]) := by
  have hr := r1n (b := (n : Int)) (n := n) (by omega) (by omega) (by omega)
  have hl : (rangeD 0 n).length ≤ 16777216 := by rw [rangeD_len]; omega
  generalize range1 = RA at *
  generalize rangeD 0 n = RD at *
  generalize D.len = LN at *
  rcases n21 with rfl | ⟨d, rfl⟩
  · simp [h, hl, f9, hr, h2]
  · simp [h, hl, f9, hr, h2]
theorem lb10_s (F S : List D → Option (D × List D)) (l p m : D) (h1 : F [l, p] = some (m, [])) (h3 : S [m, m] = some (.bool true, [])) : (dIfS (dNot (dTr (dCall [false, false] S (dA1 (dCall [false, false] F (dA1 (dVar 15) (dA1 (dVar 3) dA0))) (dA1 (dVar 9) dA0))))) (dRet (dC (.bool false))) dNx) [c0, c1, c2, .dat p, c4, c5, c6, c7, c8, .dat m, c10, c11, c12, c13, c14, .dat l, c16, c17, c18, c19, c20, c21] = some (.nx [c0, c1, c2, .dat p, c4, c5, c6, c7, c8, .dat m, c10, c11, c12, c13, c14, .dat l, c16, c17, c18, c19, c20, c21]) := by
  simp [h1, h3]
theorem lb11_s (F : List D → Option (D × List D)) (b b2 : D) (p d : Nat) (Q : Int) (hQ : (p : Int) + (d : Nat) = Q) (f10 : c10.free = true) (h : F [b, .int 3] = some (.int (d : Nat), [b2])) : (dSet 10 (dBin D.add (dVar 3) (dCall [true, false] F (dA1 (dVar 1) (dA1 (dC (.int 3)) dA0))))) [c0, .own b, c2, .dat (.int (p : Nat)), c4, c5, c6, c7, c8, c9, c10, c11, c12, c13, c14, c15, c16, c17, c18, c19, c20, c21] = some (.nx [c0, .own b2, c2, .dat (.int (p : Nat)), c4, c5, c6, c7, c8, c9, .dat (.int Q), c11, c12, c13, c14, c15, c16, c17, c18, c19, c20, c21]) := by
  subst hQ
  simp [h, f10]
theorem lb12_s (B : SD) (p q : D) (E : HD.Env) (h : dForGo (gdName 11) B [p, q] [c0, c1, c2, .dat p, c4, c5, c6, c7, c8, c9, .dat q, c11, c12, c13, c14, c15, c16, c17, c18, c19, c20, c21] = some (.nx E)) : (dFor (dI D.lst? (dN (dLst (dA1 (dVar 3) (dA1 (dVar 10) dA0))))) (gdName 11) B) [c0, c1, c2, .dat p, c4, c5, c6, c7, c8, c9, .dat q, c11, c12, c13, c14, c15, c16, c17, c18, c19, c20, c21] = some (.nx E) := by
  simp [h]
theorem lb13_s (B : SD) (e E : HD.Env) (h : dForGo (gdName 12) B [.int 0, .int 1] e = some (.nx E)) : (dFor (dI D.lst? (dN (dLst (dA1 (dC (.int 0)) (dA1 (dC (.int 1)) dA0))))) (gdName 12) B) e = some (.nx E) := by
  simp [h]
theorem lb15_s (l : List D) (f14 : c14.free = true) : lb15 [c0, c1, c2, c3, c4, c5, c6, c7, c8, c9, c10, c11, c12, .own (.list l), c14, c15, c16, c17, c18, c19, c20, c21] = some (.nx [c0, c1, c2, c3, c4, c5, c6, c7, c8, c9, c10, c11, c12, .own (.list l), .own (.list l), c15, c16, c17, c18, c19, c20, c21]) := by
  unfold lb15
  have e : D.list1 [.list l] = some (.list l) := rfl
  generalize D.list1 = LI at *
  simp [e, f14]
theorem lb16_s (S G W : List D → Option (D × List D)) (l z : D) (hz : z.flat = true) (h1 : G [l] = some (z, [])) (h2 : W [l] = some (z, [])) (h3 : S [z, z] = some (.bool true, [])) (h4 : D.ne l l = some (.bool false)) : (dIfS (dOr (dNot (dTr (dCall [false, false] S (dA1 (dCallB [false] G (dA1 (dVar 14) dA0)) (dA1 (dCallB [false] W (dA1 (dVar 13) dA0)) dA0))))) (dB (dBin D.ne (dVar 14) (dVar 13)))) (dRet (dC (.bool false))) dNx) [c0, c1, c2, c3, c4, c5, c6, c7, c8, c9, c10, c11, c12, .own l, .own l, c15, c16, c17, c18, c19, c20, c21] = some (.nx [c0, c1, c2, c3, c4, c5, c6, c7, c8, c9, c10, c11, c12, .own l, .own l, c15, c16, c17, c18, c19, c20, c21]) := by
  generalize D.ne = NE at *
  simp [h1, h2, h3, h4, hz]
theorem lb14_el (F : List D → Option (D × List D)) (b b2 d x : D) (h : F [b, .list [.none, .none, .int 0, .int 3, .none]] = some (x, [b2])) :
    (gdName 18 d [c0, .own b, c2, c3, c4, c5, c6, c7, c8, c9, c10, c11, c12, c13, c14, c15, c16, c17, .un, c19, c20, c21]).bind (fun e1 => (dCall [true, false] F (dA1 (dVar 1) (dA1 (dN (dLst (dA1 (dC .none) (dA1 (dC .none) (dA1 (dC (.int 0)) (dA1 (dC (.int 3)) (dA1 (dC .none) dA0))))))) dA0)) e1).bind fun q => (q.1.take q.2).bind fun y => (wipeC [18] y.2).map fun e5 => (y.1, e5)) = some (x, [c0, .own b2, c2, c3, c4, c5, c6, c7, c8, c9, c10, c11, c12, c13, c14, c15, c16, c17, .un, c19, c20, c21]) := by
  simp [h]
theorem lb14_lc (ds : List Int) (hds : ds ≠ []) : ∀ (n k lo : Nat), ∃ (l : List (Option Nat)) (k' : Nat), l.length = n ∧ (∀ x ∈ l, ∀ v, x = some v → v < 4) ∧ dLcGo (gdName 18) dYes (dCall [true, false] f__law_pick (dA1 (dVar 1) (dA1 (dN (dLst (dA1 (dC .none) (dA1 (dC .none) (dA1 (dC (.int 0)) (dA1 (dC (.int 3)) (dA1 (dC .none) dA0))))))) dA0))) [18] (rangeD (lo : Nat) n) [c0, .own (bx ds k), c2, c3, c4, c5, c6, c7, c8, c9, c10, c11, c12, c13, c14, c15, c16, c17, .un, c19, c20, c21] = some (pD l, [c0, .own (bx ds k'), c2, c3, c4, c5, c6, c7, c8, c9, c10, c11, c12, c13, c14, c15, c16, c17, .un, c19, c20, c21])
  | 0, k, lo => ⟨[], k, rfl, (fun x h => by cases h), rfl⟩
  | n + 1, k, lo => by
    obtain ⟨d, hd, e⟩ := pickB_mem ds hds k (row := [.none, .none, .int 0, .int 3, .none]) (by simp)
    obtain ⟨x, rfl, hx⟩ : ∃ x : Option Nat, d = oD x ∧ ∀ v, x = some v → v < 4 := by
      simp only [List.mem_cons, List.mem_nil_iff, or_false] at hd
      rcases hd with h | h | h | h | h
      · exact ⟨none, h, fun v z => by cases z⟩
      · exact ⟨none, h, fun v z => by cases z⟩
      · exact ⟨some 0, h, fun v z => by cases z; omega⟩
      · exact ⟨some 3, h, fun v z => by cases z; omega⟩
      · exact ⟨none, h, fun v z => by cases z⟩
    obtain ⟨l, k', h1, h2, h3⟩ := lb14_lc ds hds n (k + 1) (lo + 1)
    refine ⟨x :: l, k', by simp [h1], ?_, ?_⟩
    · intro y hy v ev
      rcases List.mem_cons.mp hy with rfl | hy
      · exact hx v ev
      · exact h2 y hy v ev
    · rw [range_s, show ((lo : Nat) : Int) + 1 = ((lo + 1 : Nat) : Int) by omega]
      exact lc_turnG (lb14_el f__law_pick _ _ _ _ e) h3
theorem lb14_s (F : List D → Option (D × List D)) (E : XD) (b b2 b3 : D) (n : Nat) (hn : n ≤ 1000) (N : List D) (f13 : c13.free = true) (n18 : nown c18) (h1 : F [b, .int 10] = some (.int (n : Nat), [b2])) (h : dLcGo (gdName 18) dYes E [18] (rangeD 0 n) [c0, .own b2, c2, c3, c4, c5, c6, c7, c8, c9, c10, c11, c12, c13, c14, c15, c16, c17, .un, c19, c20, c21] = some (N, [c0, .own b3, c2, c3, c4, c5, c6, c7, c8, c9, c10, c11, c12, c13, c14, c15, c16, c17, .un, c19, c20, c21])) :
    (dSetN 13 (dLc (dIA range1 (dA1 (dCall [true, false] F (dA1 (dVar 1) (dA1 (dC (.int 10)) dA0))) dA0)) (gdName 18) dYes E [18])) [c0, .own b, c2, c3, c4, c5, c6, c7, c8, c9, c10, c11, c12, c13, c14, c15, c16, c17, c18, c19, c20, c21] = some (.nx [c0, .own b3, c2, c3, c4, c5, c6, c7, c8, c9, c10, c11, c12, .own (.list N), c14, c15, c16, c17, c18, c19, c20, c21]) := by
  have hr := r1n (b := (n : Int)) (n := n) (by omega) (by omega) (by omega)
  have hl : (rangeD 0 n).length ≤ 16777216 := by rw [rangeD_len]; omega
  generalize range1 = RA at *
  generalize rangeD 0 n = RD at *
  generalize dYes = Y at *
  rcases n18 with rfl | ⟨d, rfl⟩
  · simp [h, hl, f13, hr, h1]
  · simp [h, hl, f13, hr, h1]
end
end K49

namespace K49
open PySem HD CM L2
def m1 : SD := (dSet 9 (dCB D.len (dA1 (dN (dLc (dIA range1 (dA1 (dVar 7) dA0)) (gdName 21) (dB (dBin D.eq (dBin D.mod (dCB D.int1 (dA1 (dVar 21) dA0)) (dVar 11)) (dC (.int 0)))) (dC (.int 1)) [21])) dA0)))
def m2 : SD := (dSetN 14 (dCallO [false, false, false] f_evened (dA1 (dVar 15) (dA1 (dVar 16) (dA1 (dVar 11) dA0)))))
def m3 : SD := (dIfS (dOr (dNot (dTr (dCallB [false, false, false, false] f__law_even (dA1 (dVar 5) (dA1 (dVar 14) (dA1 (dVar 11) (dA1 (dVar 9) dA0))))))) (dOr (dB (dBin D.ne (dVar 15) (dVar 5))) (dB (dBin D.ne (dVar 16) (dVar 6))))) (dRet (dC (.bool false))) dNx)
def m4 : SD := (dIfS (dOr (dNot (dTr (dCall [false, false] f__law_same (dA1 (dCall [false, false] f_rooms_needed (dA1 (dVar 15) (dA1 (dN (dCBN D.list1 (dA1 (dVar 14) dA0))) dA0))) (dA1 (dVar 9) dA0))))) (dNot (dTr (dCall [false, false] f__law_same (dA1 (dCall [false, false] f_even_rooms (dA1 (dVar 15) (dA1 (dVar 11) dA0))) (dA1 (dVar 9) dA0)))))) (dRet (dC (.bool false))) dNx)
def m5 : SD := (dDrop (dMut D.append (dSlot 14) (dA1 (dC (.int 0)) dA0)))
def m6 : SD := (dIfS (dB (dBin D.ne (dVar 16) (dVar 6))) (dRet (dC (.bool false))) dNx)
theorem m_is : b_law_2 = (dSeq m1 (dSeq m2 (dSeq m3 (dSeq m4 (dSeq m5 m6))))) := rfl
def o1 : SD := (dSetN 13 (dLc (dIA range1 (dA1 (dVar 10) dA0)) (gdName 18) dYes (dC .none) [18]))
def o2 : SD := (dFor (dIT enum1 (dA1 (dVar 6) dA0)) (gdTup 2 (gdCons (gdName 21) (gdCons (gdName 18) gdNil))) b_law_5)
def o3 : SD := (dSetN 14 (dCallO [false, false, false, false, false] f_plan_of (dA1 (dVar 15) (dA1 (dVar 16) (dA1 (dVar 12) (dA1 (dVar 17) (dA1 (dVar 10) dA0)))))))
def o4 : SD := (dIfS (dOr (dNot (dTr (dCallB [false, false] f__law_same (dA1 (dVar 14) (dA1 (dVar 13) dA0))))) (dNot (dTr (dCall [false, false] f__law_same (dA1 (dCallB [false] f_gaps_of (dA1 (dVar 14) dA0)) (dA1 (dCallB [false] f__law_gaps (dA1 (dVar 13) dA0)) dA0)))))) (dRet (dC (.bool false))) dNx)
theorem o_is : b_law_4 = (dSeq o1 (dSeq o2 (dSeq o3 o4))) := rfl
theorem shaped_qqD (l : List (Nat × Nat)) : SeqAt.shaped (.list (qqD l)) = true := by
  have key : ∀ l : List (Nat × Nat), PyData.canLayAll0 (qqD l) = true ∧ PyData.depthAll (qqD l) ≤ 3 := by
    intro l
    induction l with
    | nil => simp [qqD, PyData.canLayAll0, PyData.depthAll]
    | cons q l ih =>
      rw [qqD_cons]
      simp [PyData.canLayAll0, PyData.canLay0, PyData.depthAll, PyData.depth, ih.1]
      omega
  obtain ⟨h1, h2⟩ := key l
  simp [SeqAt.shaped, PyData.canLay0, PyData.depth, h1]
  omega
theorem shaped_pD (l : List (Option Nat)) : SeqAt.shaped (.list (pD l)) = true := by
  have key : ∀ l : List (Option Nat), PyData.canLayAll0 (pD l) = true ∧ PyData.depthAll (pD l) ≤ 3 := by
    intro l
    induction l with
    | nil => simp [pD, PyData.canLayAll0, PyData.depthAll]
    | cons q l ih =>
      have ih1 := ih.1
      have ih2 := ih.2
      rw [pD] at ih1 ih2
      cases q <;> simp [pD, oD, PyData.canLayAll0, PyData.canLay0, PyData.depthAll, PyData.depth, ih1] <;> omega
  obtain ⟨h1, h2⟩ := key l
  simp [SeqAt.shaped, PyData.canLay0, PyData.depth, h1]
  omega
theorem ne_qq (l : List (Nat × Nat)) : D.ne (.list (qqD l)) (.list (qqD l)) = some (.bool false) := ne_self_list (shaped_qqD l)
theorem ne_nD (l : List Nat) : D.ne (.list (nD l)) (.list (nD l)) = some (.bool false) := by rw [ne_lst]; simp
theorem ne_pD (l : List (Option Nat)) : D.ne (.list (pD l)) (.list (pD l)) = some (.bool false) := ne_self_list (shaped_pD l)
theorem ok_pD {n : Nat} (l : List (Option Nat)) (hl : l.length ≤ 1000) (h : ∀ x ∈ l, ∀ v, x = some v → v < 4) : okD (n + 2) (.list (pD l)) = true := by
  have hl2 : (pD l).length ≤ 16777216 := by rw [pD_len]; omega
  simp only [okD, Bool.and_eq_true, decide_eq_true_eq, List.all_eq_true]
  refine ⟨hl2, fun d hd => ?_⟩
  rw [pD, List.mem_map] at hd
  obtain ⟨x, hx, rfl⟩ := hd
  cases x with
  | none => rfl
  | some v =>
    have := h _ hx v rfl
    exact okI (i := ((v : Nat) : Int)) (by omega)
section
variable {c0 c1 c2 c3 c4 c5 c6 c7 c8 c9 c10 c11 c12 c13 c14 c15 c16 c17 c18 c19 c20 c21 : Cell}
theorem m2_s (F : List D → Option (D × List D)) (l r p z : D) (f14 : c14.free = true) (h : F [l, r, p] = some (z, [])) : (dSetN 14 (dCallO [false, false, false] F (dA1 (dVar 15) (dA1 (dVar 16) (dA1 (dVar 11) dA0))))) [c0, c1, c2, c3, c4, c5, c6, c7, c8, c9, c10, .dat p, c12, c13, c14, .dat l, .dat r, c17, c18, c19, c20, c21] = some (.nx [c0, c1, c2, c3, c4, c5, c6, c7, c8, c9, c10, .dat p, c12, c13, .own z, .dat l, .dat r, c17, c18, c19, c20, c21]) := by
  simp [h, f14]
theorem m3_s (F : List D → Option (D × List D)) (l r p k z : D) (h1 : F [l, z, p, k] = some (.bool true, [])) (h2 : D.ne l l = some (.bool false)) (h3 : D.ne r r = some (.bool false)) : (dIfS (dOr (dNot (dTr (dCallB [false, false, false, false] F (dA1 (dVar 5) (dA1 (dVar 14) (dA1 (dVar 11) (dA1 (dVar 9) dA0))))))) (dOr (dB (dBin D.ne (dVar 15) (dVar 5))) (dB (dBin D.ne (dVar 16) (dVar 6))))) (dRet (dC (.bool false))) dNx) [c0, c1, c2, c3, c4, .dat l, .dat r, c7, c8, .dat k, c10, .dat p, c12, c13, .own z, .dat l, .dat r, c17, c18, c19, c20, c21] = some (.nx [c0, c1, c2, c3, c4, .dat l, .dat r, c7, c8, .dat k, c10, .dat p, c12, c13, .own z, .dat l, .dat r, c17, c18, c19, c20, c21]) := by
  generalize D.ne = NE at *
  have fl : D.flat (.bool true) = true := rfl
  simp [h1, h2, h3, fl]
theorem m4_s (F G S : List D → Option (D × List D)) (l p k : D) (z : List D) (h1 : F [l, .list z] = some (k, [])) (h2 : G [l, p] = some (k, [])) (h3 : S [k, k] = some (.bool true, [])) : (dIfS (dOr (dNot (dTr (dCall [false, false] S (dA1 (dCall [false, false] F (dA1 (dVar 15) (dA1 (dN (dCBN D.list1 (dA1 (dVar 14) dA0))) dA0))) (dA1 (dVar 9) dA0))))) (dNot (dTr (dCall [false, false] S (dA1 (dCall [false, false] G (dA1 (dVar 15) (dA1 (dVar 11) dA0))) (dA1 (dVar 9) dA0)))))) (dRet (dC (.bool false))) dNx) [c0, c1, c2, c3, c4, c5, c6, c7, c8, .dat k, c10, .dat p, c12, c13, .own (.list z), .dat l, c16, c17, c18, c19, c20, c21] = some (.nx [c0, c1, c2, c3, c4, c5, c6, c7, c8, .dat k, c10, .dat p, c12, c13, .own (.list z), .dat l, c16, c17, c18, c19, c20, c21]) := by
  have e : D.list1 [.list z] = some (.list z) := rfl
  generalize D.list1 = LI at *
  simp [h1, h2, h3, e]
theorem m5_s (z z2 : List D) (h : D.append (.list z) [.int 0] = some (.none, .list z2)) : m5 [c0, c1, c2, c3, c4, c5, c6, c7, c8, c9, c10, c11, c12, c13, .own (.list z), c15, c16, c17, c18, c19, c20, c21] = some (.nx [c0, c1, c2, c3, c4, c5, c6, c7, c8, c9, c10, c11, c12, c13, .own (.list z2), c15, c16, c17, c18, c19, c20, c21]) := by
  unfold m5
  generalize D.append = AP at *
  simp [h]
theorem m6_s (r : D) (h : D.ne r r = some (.bool false)) : m6 [c0, c1, c2, c3, c4, c5, .dat r, c7, c8, c9, c10, c11, c12, c13, c14, c15, .dat r, c17, c18, c19, c20, c21] = some (.nx [c0, c1, c2, c3, c4, c5, .dat r, c7, c8, c9, c10, c11, c12, c13, c14, c15, .dat r, c17, c18, c19, c20, c21]) := by
  unfold m6
  generalize D.ne = NE at *
  simp [h]
/-- the rooms of a row whose fullest period is known -/
theorem rooms_is (l : D) (R : List Nat) (P M : Nat) (hR : R.length ≤ 1000) (hP : ∀ x ∈ R, x < P) (h1 : ∀ p, p < P → R.count p ≤ M) (h2 : ∃ p, p < P ∧ R.count p = M) : f_rooms_needed [l, .list (nD R)] = some (.int (M : Nat), []) := by
  obtain ⟨m, e, g1, g2⟩ := rooms_ex l R hR
  have : m = M := by
    apply Nat.le_antisymm
    · rcases g2 with h | ⟨p, hp, h⟩
      · omega
      · rw [← h]; exact h1 p (hP p hp)
    · obtain ⟨p, hp, h⟩ := h2
      by_cases q : p ∈ R
      · rw [← h]; exact g1 p q
      · rw [List.count_eq_zero.mpr q] at h
        omega
  rw [← this]; exact e
theorem same_nat (n : Nat) (h : n ≤ 1000) : f__law_same [.int (n : Nat), .int (n : Nat)] = some (.bool true, []) := same_int _ (by omega)
theorem l2_ok (L : List (Nat × Nat)) (R : List Nat) (P : Nat) (hL : L.length < 11) (hR : R.length = L.length) (h0 : 0 < P) (hP : P < 9) (hRP : ∀ x ∈ R, x < P) (hv : VT L R) (f9 : c9.free = true) (f11 : c11.free = true) (f14 : c14.free = true) (n21 : nown c21) :
    ∃ d9 d11 d14 : Cell, d9.free = true ∧ d11.free = true ∧ d14.free = true ∧ (gdName 11 (.int (P : Nat)) [c0, c1, c2, c3, c4, .dat (.list (qqD L)), .dat (.list (nD R)), .dat (.int (L.length : Nat)), c8, c9, c10, c11, c12, c13, c14, .dat (.list (qqD L)), .dat (.list (nD R)), c17, c18, c19, c20, c21]).bind b_law_2 = some (.nx [c0, c1, c2, c3, c4, .dat (.list (qqD L)), .dat (.list (nD R)), .dat (.int (L.length : Nat)), c8, d9, c10, d11, c12, c13, d14, .dat (.list (qqD L)), .dat (.list (nD R)), c17, c18, c19, c20, c21]) := by
  obtain ⟨R', e1, hR', hP', hv', M, M1, M2, M3⟩ := evened_ex L (by omega) P h0 (by omega) R hR hRP hv
  obtain ⟨k1, k2, _, _, k5⟩ := kk_tab L.length hL P hP h0
  have hM : M = kk L.length P := even_max h0 hP' M1 M2 M3 (by rw [hR']; exact k1) (by rw [hR']; exact k2)
  subst hM
  have e0 : gdName 11 (.int (P : Nat)) [c0, c1, c2, c3, c4, .dat (.list (qqD L)), .dat (.list (nD R)), .dat (.int (L.length : Nat)), c8, c9, c10, c11, c12, c13, c14, .dat (.list (qqD L)), .dat (.list (nD R)), c17, c18, c19, c20, c21] = some [c0, c1, c2, c3, c4, .dat (.list (qqD L)), .dat (.list (nD R)), .dat (.int (L.length : Nat)), c8, c9, c10, .dat (.int (P : Nat)), c12, c13, c14, .dat (.list (qqD L)), .dat (.list (nD R)), c17, c18, c19, c20, c21] := by
    generalize qqD L = a
    generalize nD R = b
    simp [f11]
  have g1 : m1 [c0, c1, c2, c3, c4, .dat (.list (qqD L)), .dat (.list (nD R)), .dat (.int (L.length : Nat)), c8, c9, c10, .dat (.int (P : Nat)), c12, c13, c14, .dat (.list (qqD L)), .dat (.list (nD R)), c17, c18, c19, c20, c21] = _ := most_s (mC 11) L.length (by omega) _ (.int (kk L.length P : Nat)) f9 n21 (mC_lc2 L.length P h0) (by rw [len_list, List.length_map]; rfl)
  have g2 : m2 [c0, c1, c2, c3, c4, .dat (.list (qqD L)), .dat (.list (nD R)), .dat (.int (L.length : Nat)), c8, .dat (.int (kk L.length P : Nat)), c10, .dat (.int (P : Nat)), c12, c13, c14, .dat (.list (qqD L)), .dat (.list (nD R)), c17, c18, c19, c20, c21] = _ := m2_s f_evened _ _ _ _ f14 e1
  have ev := even_true L R' P (kk L.length P) hR' (by omega) (by omega) hv' hP' M1
  have g3 : m3 [c0, c1, c2, c3, c4, .dat (.list (qqD L)), .dat (.list (nD R)), .dat (.int (L.length : Nat)), c8, .dat (.int (kk L.length P : Nat)), c10, .dat (.int (P : Nat)), c12, c13, .own (.list (nD R')), .dat (.list (qqD L)), .dat (.list (nD R)), c17, c18, c19, c20, c21] = _ := m3_s f__law_even _ _ _ _ _ ev (ne_qq L) (ne_nD R)
  have rm := rooms_is (.list (qqD L)) R' P _ (by omega) hP' M1 M2
  have g4 : m4 [c0, c1, c2, c3, c4, .dat (.list (qqD L)), .dat (.list (nD R)), .dat (.int (L.length : Nat)), c8, .dat (.int (kk L.length P : Nat)), c10, .dat (.int (P : Nat)), c12, c13, .own (.list (nD R')), .dat (.list (qqD L)), .dat (.list (nD R)), c17, c18, c19, c20, c21] = _ := m4_s f_rooms_needed f_even_rooms f__law_same _ _ _ _ rm (even_eq L P hL hP h0) (same_nat _ (by omega))
  have g5 : m5 [c0, c1, c2, c3, c4, .dat (.list (qqD L)), .dat (.list (nD R)), .dat (.int (L.length : Nat)), c8, .dat (.int (kk L.length P : Nat)), c10, .dat (.int (P : Nat)), c12, c13, .own (.list (nD R')), .dat (.list (qqD L)), .dat (.list (nD R)), c17, c18, c19, c20, c21] = _ := m5_s _ _ (ap_nD 0 (by omega))
  have g6 : m6 [c0, c1, c2, c3, c4, .dat (.list (qqD L)), .dat (.list (nD R)), .dat (.int (L.length : Nat)), c8, .dat (.int (kk L.length P : Nat)), c10, .dat (.int (P : Nat)), c12, c13, .own (.list (nD (R' ++ [0]))), .dat (.list (qqD L)), .dat (.list (nD R)), c17, c18, c19, c20, c21] = _ := m6_s _ (ne_nD R)
  refine ⟨.dat (.int (kk L.length P : Nat)), .dat (.int (P : Nat)), .own (.list (nD (R' ++ [0]))), rfl, rfl, rfl, ?_⟩
  rw [e0, Option.bind_some, m_is]
  exact (dSeq_nx g1).trans ((dSeq_nx g2).trans ((dSeq_nx g3).trans ((dSeq_nx g4).trans ((dSeq_nx g5).trans g6))))
/-! a plan by hand -/
abbrev pqG : GD := (gdTup 2 (gdCons (gdName 21) (gdCons (gdName 18) gdNil)))
theorem pq_yes (l t x y p z : D) (S S2 : List D) (s i s2 : Int) (f21 : c21.free = true) (f18 : c18.free = true) (h0 : D.ix l (.int i) = some t) (h1 : D.ix t (.int s) = some x) (h2 : D.eq x y = some (.bool true)) (hs : 1 - s = s2) (h3 : D.ix t (.int s2) = some z) (h5 : D.setIx (.list S) p z = some (.list S2)) :
    (pqG (.tuple [.int i, p]) [c0, c1, c2, c3, c4, .dat l, c6, c7, c8, c9, c10, c11, .dat (.int s), .own (.list S), c14, c15, c16, .dat y, c18, c19, c20, c21]).bind b_law_5 = some (.nx [c0, c1, c2, c3, c4, .dat l, c6, c7, c8, c9, c10, c11, .dat (.int s), .own (.list S2), c14, c15, c16, .dat y, .dat p, c19, c20, .dat (.int i)]) := by
  subst hs
  unfold b_law_5 pqG
  generalize D.ix = IX at *
  generalize D.eq = EQ at *
  generalize D.setIx = SI at *
  simp [h0, h1, h2, h3, h5, f21, f18]
theorem pq_no (l t x y p : D) (S : List D) (s i : Int) (f21 : c21.free = true) (f18 : c18.free = true) (h0 : D.ix l (.int i) = some t) (h1 : D.ix t (.int s) = some x) (h2 : D.eq x y = some (.bool false)) :
    (pqG (.tuple [.int i, p]) [c0, c1, c2, c3, c4, .dat l, c6, c7, c8, c9, c10, c11, .dat (.int s), .own (.list S), c14, c15, c16, .dat y, c18, c19, c20, c21]).bind b_law_5 = some (.nx [c0, c1, c2, c3, c4, .dat l, c6, c7, c8, c9, c10, c11, .dat (.int s), .own (.list S), c14, c15, c16, .dat y, .dat p, c19, c20, .dat (.int i)]) := by
  unfold b_law_5 pqG
  generalize D.ix = IX at *
  generalize D.eq = EQ at *
  simp [h0, h1, h2, f21, f18]
theorem pq_step (L : List (Nat × Nat)) (R : List Nat) (s w P i : Nat) (hs : s < 2) (hi : i < L.length) (hP : R.getD i 0 < P) (f21 : c21.free = true) (f18 : c18.free = true) :
    (pqG (.tuple [.int (i : Nat), .int (R.getD i 0 : Nat)]) [c0, c1, c2, c3, c4, .dat (.list (qqD L)), c6, c7, c8, c9, c10, c11, .dat (.int (s : Nat)), .own (.list (pD (plan L R s w P i))), c14, c15, c16, .dat (.int (w : Nat)), c18, c19, c20, c21]).bind b_law_5 = some (.nx [c0, c1, c2, c3, c4, .dat (.list (qqD L)), c6, c7, c8, c9, c10, c11, .dat (.int (s : Nat)), .own (.list (pD (plan L R s w P (i + 1)))), c14, c15, c16, .dat (.int (w : Nat)), .dat (.int (R.getD i 0 : Nat)), c19, c20, .dat (.int (i : Nat))]) := by
  have e1 := ix_sd hs (L.getD i (0, 0))
  have e2 := eq_nat (sd s (L.getD i (0, 0))) w
  rw [plan_succ]
  by_cases q : sd s (L.getD i (0, 0)) = w
  · rw [decide_eq_true q] at e2
    have e3 := ix_sd (s := 1 - s) (by omega) (L.getD i (0, 0))
    refine pq_yes (s := ((s : Nat) : Int)) (f21 := f21) (f18 := f18) (h0 := ix_qqD hi) (h1 := e1) (h2 := e2) (hs := show (1 : Int) - (s : Nat) = ((1 - s : Nat) : Int) by omega) (h3 := e3) (h5 := ?_) ..
    rw [pst, if_pos q, ← pD_set]
    exact setIx_I (by rw [pD_len, plan_len]; exact hP)
  · rw [decide_eq_false q] at e2
    rw [pst, if_neg q]
    exact pq_no (s := ((s : Nat) : Int)) (f21 := f21) (f18 := f18) (h0 := ix_qqD hi) (h1 := e1) (h2 := e2) ..
theorem o1_lc (P : Nat) : dLcGo (gdName 18) dYes (dC .none) [18] (rangeD 0 P) [c0, c1, c2, c3, c4, c5, c6, c7, c8, c9, c10, c11, c12, c13, c14, c15, c16, c17, .un, c19, c20, c21] = some (pD (List.replicate P none), [c0, c1, c2, c3, c4, c5, c6, c7, c8, c9, c10, c11, c12, c13, c14, c15, c16, c17, .un, c19, c20, c21]) := by
  have h := lc_map0 (el := dC .none) (i := 18) (n := P) (e := [c0, c1, c2, c3, c4, c5, c6, c7, c8, c9, c10, c11, c12, c13, c14, c15, c16, c17, .un, c19, c20, c21]) (fun j : Nat => .none) fun j hj => by simp
  have e : pD (List.replicate P none) = (List.range P).map fun j : Nat => (PyData.none : D) := by
    rw [pD, List.map_replicate, List.map_const', List.length_range]; rfl
  rw [e]
  exact h
theorem o1_s (P : Nat) (hP : P ≤ 1000) (N : List D) (f13 : c13.free = true) (n18 : nown c18) (h : dLcGo (gdName 18) dYes (dC .none) [18] (rangeD 0 P) [c0, c1, c2, c3, c4, c5, c6, c7, c8, c9, .dat (.int (P : Nat)), c11, c12, c13, c14, c15, c16, c17, .un, c19, c20, c21] = some (N, [c0, c1, c2, c3, c4, c5, c6, c7, c8, c9, .dat (.int (P : Nat)), c11, c12, c13, c14, c15, c16, c17, .un, c19, c20, c21])) : o1 [c0, c1, c2, c3, c4, c5, c6, c7, c8, c9, .dat (.int (P : Nat)), c11, c12, c13, c14, c15, c16, c17, c18, c19, c20, c21] = some (.nx [c0, c1, c2, c3, c4, c5, c6, c7, c8, c9, .dat (.int (P : Nat)), c11, c12, .own (.list N), c14, c15, c16, c17, c18, c19, c20, c21]) := by
  unfold o1
  have hr := r1n (b := (P : Int)) (n := P) (by omega) (by omega) (by omega)
  have hl : (rangeD 0 P).length ≤ 16777216 := by rw [rangeD_len]; omega
  generalize range1 = RA at *
  generalize rangeD 0 P = RD at *
  generalize dYes = Y at *
  generalize (dC PyData.none) = NN at *
  rcases n18 with rfl | ⟨d, rfl⟩
  · simp [h, hl, f13, hr]
  · simp [h, hl, f13, hr]
theorem o2_s (B : SD) (r Z : List D) (E : HD.Env) (h1 : enum1 [.list r] = some Z) (h : dForGo pqG B Z [c0, c1, c2, c3, c4, c5, .dat (.list r), c7, c8, c9, c10, c11, c12, c13, c14, c15, c16, c17, c18, c19, c20, c21] = some (.nx E)) : (dFor (dIT enum1 (dA1 (dVar 6) dA0)) (gdTup 2 (gdCons (gdName 21) (gdCons (gdName 18) gdNil))) B) [c0, c1, c2, c3, c4, c5, .dat (.list r), c7, c8, c9, c10, c11, c12, c13, c14, c15, c16, c17, c18, c19, c20, c21] = some (.nx E) := by
  generalize enum1 = EN at *
  unfold pqG at h
  generalize (gdTup 2 (gdCons (gdName 21) (gdCons (gdName 18) gdNil))) = G at *
  simp [h1, h]
theorem o3_s (F : List D → Option (D × List D)) (l r s w p z : D) (f14 : c14.free = true) (h : F [l, r, s, w, p] = some (z, [])) : (dSetN 14 (dCallO [false, false, false, false, false] F (dA1 (dVar 15) (dA1 (dVar 16) (dA1 (dVar 12) (dA1 (dVar 17) (dA1 (dVar 10) dA0))))))) [c0, c1, c2, c3, c4, c5, c6, c7, c8, c9, .dat p, c11, .dat s, c13, c14, .dat l, .dat r, .dat w, c18, c19, c20, c21] = some (.nx [c0, c1, c2, c3, c4, c5, c6, c7, c8, c9, .dat p, c11, .dat s, c13, .own z, .dat l, .dat r, .dat w, c18, c19, c20, c21]) := by
  simp [h, f14]
theorem o4_s (S G W : List D → Option (D × List D)) (l z : D) (hz : z.flat = true) (h0 : S [l, l] = some (.bool true, [])) (h1 : G [l] = some (z, [])) (h2 : W [l] = some (z, [])) (h3 : S [z, z] = some (.bool true, [])) : (dIfS (dOr (dNot (dTr (dCallB [false, false] S (dA1 (dVar 14) (dA1 (dVar 13) dA0))))) (dNot (dTr (dCall [false, false] S (dA1 (dCallB [false] G (dA1 (dVar 14) dA0)) (dA1 (dCallB [false] W (dA1 (dVar 13) dA0)) dA0)))))) (dRet (dC (.bool false))) dNx) [c0, c1, c2, c3, c4, c5, c6, c7, c8, c9, c10, c11, c12, .own l, .own l, c15, c16, c17, c18, c19, c20, c21] = some (.nx [c0, c1, c2, c3, c4, c5, c6, c7, c8, c9, c10, c11, c12, .own l, .own l, c15, c16, c17, c18, c19, c20, c21]) := by
  have fl : D.flat (.bool true) = true := rfl
  simp [h0, h1, h2, h3, hz, fl]
theorem l4_ok (L : List (Nat × Nat)) (R : List Nat) (s w Q : Nat) (hs : s < 2) (hL : L.length ≤ 100) (hL4 : ∀ q ∈ L, q.1 < 4 ∧ q.2 < 4) (hR : R.length = L.length) (hQ : Q ≤ 100) (hRQ : ∀ x ∈ R, x < Q) (f13 : c13.free = true) (f14 : c14.free = true) (f17 : c17.free = true) (n18 : nown c18) (n21 : nown c21) :
    ∃ d13 d14 d17 d18 d21 : Cell, d13.free = true ∧ d14.free = true ∧ d17.free = true ∧ nown d18 ∧ nown d21 ∧ (gdName 17 (.int (w : Nat)) [c0, c1, c2, c3, c4, .dat (.list (qqD L)), .dat (.list (nD R)), c7, c8, c9, .dat (.int (Q : Nat)), c11, .dat (.int (s : Nat)), c13, c14, .dat (.list (qqD L)), .dat (.list (nD R)), c17, c18, c19, c20, c21]).bind b_law_4 = some (.nx [c0, c1, c2, c3, c4, .dat (.list (qqD L)), .dat (.list (nD R)), c7, c8, c9, .dat (.int (Q : Nat)), c11, .dat (.int (s : Nat)), d13, d14, .dat (.list (qqD L)), .dat (.list (nD R)), d17, d18, c19, c20, d21]) := by
  have e0 : gdName 17 (.int (w : Nat)) [c0, c1, c2, c3, c4, .dat (.list (qqD L)), .dat (.list (nD R)), c7, c8, c9, .dat (.int (Q : Nat)), c11, .dat (.int (s : Nat)), c13, c14, .dat (.list (qqD L)), .dat (.list (nD R)), c17, c18, c19, c20, c21] = some [c0, c1, c2, c3, c4, .dat (.list (qqD L)), .dat (.list (nD R)), c7, c8, c9, .dat (.int (Q : Nat)), c11, .dat (.int (s : Nat)), c13, c14, .dat (.list (qqD L)), .dat (.list (nD R)), .dat (.int (w : Nat)), c18, c19, c20, c21] := by
    generalize qqD L = a
    generalize nD R = b
    simp [f17]
  have g1 : o1 [c0, c1, c2, c3, c4, .dat (.list (qqD L)), .dat (.list (nD R)), c7, c8, c9, .dat (.int (Q : Nat)), c11, .dat (.int (s : Nat)), c13, c14, .dat (.list (qqD L)), .dat (.list (nD R)), .dat (.int (w : Nat)), c18, c19, c20, c21] = _ := o1_s Q (by omega) _ f13 n18 (o1_lc Q)
  obtain ⟨e', q, d18, d21, rfl, n18', n21'⟩ := for_lst (g := pqG) (t := b_law_5) (ds := enumD 0 (nD R)) (e := [c0, c1, c2, c3, c4, .dat (.list (qqD L)), .dat (.list (nD R)), c7, c8, c9, .dat (.int (Q : Nat)), c11, .dat (.int (s : Nat)), .own (.list (pD (List.replicate Q none))), c14, .dat (.list (qqD L)), .dat (.list (nD R)), .dat (.int (w : Nat)), c18, c19, c20, c21])
    (fun i e => ∃ (c18 c21 : Cell), e = [c0, c1, c2, c3, c4, .dat (.list (qqD L)), .dat (.list (nD R)), c7, c8, c9, .dat (.int (Q : Nat)), c11, .dat (.int (s : Nat)), .own (.list (pD (plan L R s w Q i))), c14, .dat (.list (qqD L)), .dat (.list (nD R)), .dat (.int (w : Nat)), c18, c19, c20, c21] ∧ nown c18 ∧ nown c21) ⟨c18, c21, rfl, n18, n21⟩ (by
    rintro i d e hd ⟨c18, c21, rfl, n18, n21⟩
    rw [← map_nD, enum_map _ 0, List.getElem?_map, Option.map_eq_some_iff] at hd
    obtain ⟨j, hj, rfl⟩ := hd
    have hi : i < R.length := by
      have := (List.getElem?_eq_some_iff.mp hj).1
      rwa [List.length_range] at this
    rw [List.getElem?_range hi, Option.some.injEq] at hj
    subst hj
    exact ⟨_, .inl (pq_step L R s w Q i hs (by omega) (hRQ _ (List.mem_of_getElem? (getD_some hi))) (nown_free n21) (nown_free n18)), _, _, rfl, nown_dat _, nown_dat _⟩)
  rw [enumD_len, nD_len, hR] at q
  have g2 : o2 [c0, c1, c2, c3, c4, .dat (.list (qqD L)), .dat (.list (nD R)), c7, c8, c9, .dat (.int (Q : Nat)), c11, .dat (.int (s : Nat)), .own (.list (pD (List.replicate Q none))), c14, .dat (.list (qqD L)), .dat (.list (nD R)), .dat (.int (w : Nat)), c18, c19, c20, c21] = _ := o2_s b_law_5 (nD R) _ _ rfl q
  have pe := plan_eq L R s w Q hR hs (by omega) hRQ
  have g3 := o3_s (c0 := c0) (c1 := c1) (c2 := c2) (c3 := c3) (c4 := c4) (c5 := .dat (.list (qqD L))) (c6 := .dat (.list (nD R))) (c7 := c7) (c8 := c8) (c9 := c9) (c11 := c11) (c13 := .own (.list (pD (plan L R s w Q L.length)))) (c18 := d18) (c19 := c19) (c20 := c20) (c21 := d21) f_plan_of _ _ _ _ _ _ f14 pe
  obtain ⟨f, hf, e1, e2⟩ := lgaps_ex (plan L R s w Q L.length) (by rw [plan_len]; omega)
  rw [plan_len] at hf
  have sp := same_eq (.list (pD (plan L R s w Q L.length))) (ok_pD _ (by rw [plan_len]; omega) (plan_get L R s w Q hL4 L.length (Nat.le_refl _)))
  have g4 := o4_s (c0 := c0) (c1 := c1) (c2 := c2) (c3 := c3) (c4 := c4) (c5 := .dat (.list (qqD L))) (c6 := .dat (.list (nD R))) (c7 := c7) (c8 := c8) (c9 := c9) (c10 := .dat (.int (Q : Nat))) (c11 := c11) (c12 := .dat (.int (s : Nat))) (c15 := .dat (.list (qqD L))) (c16 := .dat (.list (nD R))) (c17 := .dat (.int (w : Nat))) (c18 := d18) (c19 := c19) (c20 := c20) (c21 := d21) f__law_same f_gaps_of f__law_gaps _ _ rfl sp e2 e1 (same_nat f (by omega))
  refine ⟨.own (.list (pD (plan L R s w Q L.length))), .own (.list (pD (plan L R s w Q L.length))), .dat (.int (w : Nat)), d18, d21, rfl, rfl, rfl, n18', n21', ?_⟩
  rw [e0, Option.bind_some, o_is]
  exact (dSeq_nx g1).trans ((dSeq_nx (t := o2) g2).trans ((dSeq_nx (t := o3) g3).trans g4))
theorem l3_s (F : List D → Option (D × List D)) (B : SD) (b b2 b3 x y d : D) (E : HD.Env) (f12 : c12.free = true) (h1 : F [b, .int 4] = some (x, [b2])) (h2 : F [b2, .int 4] = some (y, [b3])) (h : dForGo (gdName 17) B [x, y] [c0, .own b3, c2, c3, c4, c5, c6, c7, c8, c9, c10, c11, .dat d, c13, c14, c15, c16, c17, c18, c19, c20, c21] = some (.nx E)) : (gdName 12 d [c0, .own b, c2, c3, c4, c5, c6, c7, c8, c9, c10, c11, c12, c13, c14, c15, c16, c17, c18, c19, c20, c21]).bind (dFor (dI D.lst? (dN (dLst (dA1 (dCall [true, false] F (dA1 (dVar 1) (dA1 (dC (.int 4)) dA0))) (dA1 (dCall [true, false] F (dA1 (dVar 1) (dA1 (dC (.int 4)) dA0))) dA0))))) (gdName 17) B) = some (.nx E) := by
  simp [h1, h2, h, f12]
theorem l3_ok (ds : List Int) (hds : ds ≠ []) (k : Nat) (L : List (Nat × Nat)) (R : List Nat) (s Q : Nat) (hs : s < 2) (hL : L.length ≤ 100) (hL4 : ∀ q ∈ L, q.1 < 4 ∧ q.2 < 4) (hR : R.length = L.length) (hQ : Q ≤ 100) (hRQ : ∀ x ∈ R, x < Q) (f12 : c12.free = true) (f13 : c13.free = true) (f14 : c14.free = true) (f17 : c17.free = true) (n18 : nown c18) (n21 : nown c21) :
    ∃ d13 d14 d17 d18 d21 : Cell, d13.free = true ∧ d14.free = true ∧ d17.free = true ∧ nown d18 ∧ nown d21 ∧ (gdName 12 (.int (s : Nat)) [c0, .own (bx ds k), c2, c3, c4, .dat (.list (qqD L)), .dat (.list (nD R)), c7, c8, c9, .dat (.int (Q : Nat)), c11, c12, c13, c14, .dat (.list (qqD L)), .dat (.list (nD R)), c17, c18, c19, c20, c21]).bind b_law_3 = some (.nx [c0, .own (bx ds (k + 1 + 1)), c2, c3, c4, .dat (.list (qqD L)), .dat (.list (nD R)), c7, c8, c9, .dat (.int (Q : Nat)), c11, .dat (.int (s : Nat)), d13, d14, .dat (.list (qqD L)), .dat (.list (nD R)), d17, d18, c19, c20, d21]) := by
  obtain ⟨w1, _, h1⟩ := drawB_nat ds hds k 4 (by omega)
  obtain ⟨w2, _, h2⟩ := drawB_nat ds hds (k + 1) 4 (by omega)
  obtain ⟨x13, x14, x17, x18, x21, a13, a14, a17, a18, a21, s1⟩ := l4_ok (c0 := c0) (c1 := .own (bx ds (k + 1 + 1))) (c2 := c2) (c3 := c3) (c4 := c4) (c7 := c7) (c8 := c8) (c9 := c9) (c11 := c11) (c19 := c19) (c20 := c20) L R s w1 Q hs hL hL4 hR hQ hRQ f13 f14 f17 n18 n21
  obtain ⟨y13, y14, y17, y18, y21, b13, b14, b17, b18, b21, s2⟩ := l4_ok (c0 := c0) (c1 := .own (bx ds (k + 1 + 1))) (c2 := c2) (c3 := c3) (c4 := c4) (c7 := c7) (c8 := c8) (c9 := c9) (c11 := c11) (c19 := c19) (c20 := c20) L R s w2 Q hs hL hL4 hR hQ hRQ a13 a14 a17 a18 a21
  refine ⟨y13, y14, y17, y18, y21, b13, b14, b17, b18, b21, ?_⟩
  exact l3_s (F := f__law_draw) (B := b_law_4) (f12 := f12) (h1 := h1) (h2 := h2) (h := (for_step s1).trans ((for_step s2).trans rfl)) ..
end
end K49

namespace K49
open PySem HD CM L2
theorem lesn_get {l : List (Nat × Nat × Nat)} {i : Nat} (h : i < l.length) : (lesn l).getD i (0, 0) = (l[i].1, l[i].2.1) := by
  rw [lesn, List.getD_eq_getElem?_getD, List.getElem?_map, List.getElem?_eq_getElem h]; rfl
theorem rown_get {l : List (Nat × Nat × Nat)} {i : Nat} (h : i < l.length) : (rown l).getD i 0 = l[i].2.2 := by
  rw [rown, List.getD_eq_getElem?_getD, List.getElem?_map, List.getElem?_eq_getElem h]; rfl
theorem lesn_len (l : List (Nat × Nat × Nat)) : (lesn l).length = l.length := by rw [lesn, List.length_map]
theorem rown_len (l : List (Nat × Nat × Nat)) : (rown l).length = l.length := by rw [rown, List.length_map]
theorem vt_of {l : List (Nat × Nat × Nat)} (h : l.Pairwise apart) : VT (lesn l) (rown l) := by
  have key : ∀ i j, (hi : i < l.length) → (hj : j < l.length) → i < j → apart l[i] l[j] := fun i j hi hj hij => List.pairwise_iff_getElem.mp h i j hi hj hij
  intro i j hi hj hne he
  rw [lesn_len] at hi hj
  rw [rown_get hi, rown_get hj] at he
  have ap : apart l[i] l[j] := by
    rcases Nat.lt_or_gt_of_ne hne with q | q
    · exact key i j hi hj q
    · exact apart_symm (key j i hj hi q)
  obtain ⟨h1, h2⟩ := ap he
  unfold sh
  rw [lesn_get hi, lesn_get hj, decide_eq_false h1, decide_eq_false h2]
  rfl
theorem lap_ok (ds : List Int) (hds : ds ≠ []) (k : Nat) (d : D) {c0 c2 c3 c4 c5 c6 c7 c8 c9 c10 c11 c12 c13 c14 c15 c16 c17 c18 c21 : Cell} (f2 : c2.free = true) (f3 : c3.free = true) (f4 : c4.free = true) (f5 : c5.free = true) (f6 : c6.free = true) (f7 : c7.free = true) (f8 : c8.free = true) (f9 : c9.free = true) (f10 : c10.free = true) (f11 : c11.free = true) (f12 : c12.free = true) (f13 : c13.free = true) (f14 : c14.free = true) (f15 : c15.free = true) (f16 : c16.free = true) (f17 : c17.free = true) (n18 : nown c18) (n21 : nown c21) :
    ∃ (k' : Nat) (d2 d3 d4 d5 d6 d7 d8 d9 d10 d11 d12 d13 d14 d15 d16 d17 d18 d21 : Cell), (gdName 2 d [c0, .own (bx ds k), c2, c3, c4, c5, c6, c7, c8, c9, c10, c11, c12, c13, c14, c15, c16, c17, c18, .un, .un, c21]).bind b_law_1 = some (.nx [c0, .own (bx ds k'), d2, d3, d4, d5, d6, d7, d8, d9, d10, d11, d12, d13, d14, d15, d16, d17, d18, .un, .un, d21]) ∧
      d2.free = true ∧ d3.free = true ∧ d4.free = true ∧ d5.free = true ∧ d6.free = true ∧ d7.free = true ∧ d8.free = true ∧ d9.free = true ∧ d10.free = true ∧ d11.free = true ∧ d12.free = true ∧ d13.free = true ∧ d14.free = true ∧ d15.free = true ∧ d16.free = true ∧ d17.free = true ∧ nown d18 ∧ nown d21 := by
  have e0 : gdName 2 d [c0, .own (bx ds k), c2, c3, c4, c5, c6, c7, c8, c9, c10, c11, c12, c13, c14, c15, c16, c17, c18, .un, .un, c21] = some [c0, .own (bx ds k), .dat d, c3, c4, c5, c6, c7, c8, c9, c10, c11, c12, c13, c14, c15, c16, c17, c18, .un, .un, c21] := by simp [f2]
  obtain ⟨p, hp, h1⟩ := drawB_nat ds hds k 6 (by omega)
  obtain ⟨P, hP⟩ : ∃ P, P = 1 + p := ⟨_, rfl⟩
  have g1 : lb1 [c0, .own (bx ds k), .dat d, c3, c4, c5, c6, c7, c8, c9, c10, c11, c12, c13, c14, c15, c16, c17, c18, .un, .un, c21] = _ := lb1_s f__law_draw _ _ p (P : Nat) (by omega) f3 h1
  obtain ⟨l, k2, h2, hl, hap, hq⟩ := placed_ex ds hds (k + 1) P (by omega)
  have g2 : lb2 [c0, .own (bx ds (k + 1)), .dat d, .dat (.int (P : Nat)), c4, c5, c6, c7, c8, c9, c10, c11, c12, c13, c14, c15, c16, c17, c18, .un, .un, c21] = _ := lb2_s f__law_placed _ _ _ _ f4 h2
  have hlt : (l.map tri).length ≤ 16777216 := by rw [List.length_map]; omega
  have g3 : lb3 [c0, .own (bx ds k2), .dat d, .dat (.int (P : Nat)), .dat (.list (l.map tri)), c5, c6, c7, c8, c9, c10, c11, c12, c13, c14, c15, c16, c17, c18, .un, .un, c21] = _ := lb3_s _ _ _ f5 n18 hlt (lb3_lc l)
  have g4 : lb4 [c0, .own (bx ds k2), .dat d, .dat (.int (P : Nat)), .dat (.list (l.map tri)), .dat (.list (qqD (lesn l))), c6, c7, c8, c9, c10, c11, c12, c13, c14, c15, c16, c17, c18, .un, .un, c21] = _ := lb4_s _ _ _ f6 n18 hlt (lb4_lc l)
  have hLl := lesn_len l
  have hRl := rown_len l
  have hv := vt_of hap
  have hL4 : ∀ q ∈ lesn l, q.1 < 4 ∧ q.2 < 4 := by
    intro q hm
    obtain ⟨z, hz, rfl⟩ := List.mem_map.mp hm
    exact (hq z hz).2
  have hRP : ∀ x ∈ rown l, x < P := by
    intro x hm
    obtain ⟨z, hz, rfl⟩ := List.mem_map.mp hm
    exact (hq z hz).1
  generalize lesn l = L at *
  generalize rown l = R at *
  generalize PyData.list (l.map tri) = pla at *
  have g5 : lb5 [c0, .own (bx ds k2), .dat d, .dat (.int (P : Nat)), .dat pla, .dat (.list (qqD L)), .dat (.list (nD R)), c7, c8, c9, c10, c11, c12, c13, c14, c15, c16, c17, c18, .un, .un, c21] = _ := lb5_s _ _ f15 f16
  have g6 : lb6 [c0, .own (bx ds k2), .dat d, .dat (.int (P : Nat)), .dat pla, .dat (.list (qqD L)), .dat (.list (nD R)), c7, c8, c9, c10, c11, c12, c13, c14, .dat (.list (qqD L)), .dat (.list (nD R)), c17, c18, .un, .un, c21] = _ := lb6_s _ (.int (L.length : Nat)) f7 (by rw [len_list, qqD_len])
  have g7 : lb7 [c0, .own (bx ds k2), .dat d, .dat (.int (P : Nat)), .dat pla, .dat (.list (qqD L)), .dat (.list (nD R)), .dat (.int (L.length : Nat)), c8, c9, c10, c11, c12, c13, c14, .dat (.list (qqD L)), .dat (.list (nD R)), c17, c18, .un, .un, c21] = _ := lb7_s _ P (by omega) _ f8 n18 (lb7_lc R (by omega) P)
  have hne : szs P R ≠ [] := fun z => by have := szs_len P R; rw [z] at this; simp at this; omega
  obtain ⟨M, hM, hM2, e1⟩ := max1_nD (szs P R) hne
  have rm := rooms_is (.list (qqD L)) R P M (by omega) hRP (fun p hp => hM2 _ (List.mem_of_getElem? (szs_get hp))) (by
    rw [szs, List.mem_map] at hM
    obtain ⟨p, hp, e⟩ := hM
    exact ⟨p, List.mem_range.mp hp, e⟩)
  have hMl : M ≤ 1000 := by
    rw [szs, List.mem_map] at hM
    obtain ⟨p, hp, rfl⟩ := hM
    have := List.count_le_length (a := p) (l := R)
    omega
  have g8 : lb8 [c0, .own (bx ds k2), .dat d, .dat (.int (P : Nat)), .dat pla, .dat (.list (qqD L)), .dat (.list (nD R)), .dat (.int (L.length : Nat)), .dat (.list (nD (szs P R))), c9, c10, c11, c12, c13, c14, .dat (.list (qqD L)), .dat (.list (nD R)), c17, c18, .un, .un, c21] = _ := lb8_s f_rooms_needed f__law_same _ _ _ _ rm e1 (same_nat M hMl)
  have h0P : 0 < P := by omega
  obtain ⟨_, _, _, _, k5⟩ := kk_tab L.length (by omega) P (by omega) h0P
  have g9 : lb9 [c0, .own (bx ds k2), .dat d, .dat (.int (P : Nat)), .dat pla, .dat (.list (qqD L)), .dat (.list (nD R)), .dat (.int (L.length : Nat)), .dat (.list (nD (szs P R))), c9, c10, c11, c12, c13, c14, .dat (.list (qqD L)), .dat (.list (nD R)), c17, c18, .un, .un, c21] = _ := most_s (mC 3) L.length (by omega) _ (.int (kk L.length P : Nat)) f9 n21 (mC_lc L.length P h0P) (by rw [len_list, List.length_map]; rfl)
  have g10 : lb10 [c0, .own (bx ds k2), .dat d, .dat (.int (P : Nat)), .dat pla, .dat (.list (qqD L)), .dat (.list (nD R)), .dat (.int (L.length : Nat)), .dat (.list (nD (szs P R))), .dat (.int (kk L.length P : Nat)), c10, c11, c12, c13, c14, .dat (.list (qqD L)), .dat (.list (nD R)), c17, c18, .un, .un, c21] = _ := lb10_s f_even_rooms f__law_same _ _ _ (even_eq L P (by omega) (by omega) h0P) (same_nat _ (by omega))
  obtain ⟨q, hq3, h3⟩ := drawB_nat ds hds k2 3 (by omega)
  obtain ⟨Q, hQ⟩ : ∃ Q, Q = P + q := ⟨_, rfl⟩
  have g11 : lb11 [c0, .own (bx ds k2), .dat d, .dat (.int (P : Nat)), .dat pla, .dat (.list (qqD L)), .dat (.list (nD R)), .dat (.int (L.length : Nat)), .dat (.list (nD (szs P R))), .dat (.int (kk L.length P : Nat)), c10, c11, c12, c13, c14, .dat (.list (qqD L)), .dat (.list (nD R)), c17, c18, .un, .un, c21] = _ := lb11_s f__law_draw _ _ P q (Q : Nat) (by omega) f10 h3
  have hRQ : ∀ x ∈ R, x < Q := fun x hx => by have := hRP x hx; omega
  have hRL : R.length = L.length := by omega
  obtain ⟨x9, x11, x14, a9, a11, a14, s1⟩ := l2_ok (c0 := c0) (c1 := .own (bx ds (k2 + 1))) (c2 := .dat d) (c3 := .dat (.int (P : Nat))) (c4 := .dat pla) (c8 := .dat (.list (nD (szs P R)))) (c9 := .dat (.int (kk L.length P : Nat))) (c10 := .dat (.int (Q : Nat))) (c12 := c12) (c13 := c13) (c17 := c17) (c18 := c18) (c19 := .un) (c20 := .un) (c21 := c21) L R P (by omega) hRL h0P (by omega) hRP hv rfl f11 f14 n21
  obtain ⟨y9, y11, y14, b9, b11, b14, s2⟩ := l2_ok (c0 := c0) (c1 := .own (bx ds (k2 + 1))) (c2 := .dat d) (c3 := .dat (.int (P : Nat))) (c4 := .dat pla) (c8 := .dat (.list (nD (szs P R)))) (c10 := .dat (.int (Q : Nat))) (c12 := c12) (c13 := c13) (c17 := c17) (c18 := c18) (c19 := .un) (c20 := .un) (c21 := c21) L R Q (by omega) hRL (by omega) (by omega) hRQ hv a9 a11 a14 n21
  have g12 : lb12 [c0, .own (bx ds (k2 + 1)), .dat d, .dat (.int (P : Nat)), .dat pla, .dat (.list (qqD L)), .dat (.list (nD R)), .dat (.int (L.length : Nat)), .dat (.list (nD (szs P R))), .dat (.int (kk L.length P : Nat)), .dat (.int (Q : Nat)), c11, c12, c13, c14, .dat (.list (qqD L)), .dat (.list (nD R)), c17, c18, .un, .un, c21] = _ := lb12_s b_law_2 _ _ _ ((for_step s1).trans ((for_step s2).trans rfl))
  obtain ⟨u13, u14, u17, u18, u21, p13, p14, p17, p18, p21, s3⟩ := l3_ok (c0 := c0) (c2 := .dat d) (c3 := .dat (.int (P : Nat))) (c4 := .dat pla) (c7 := .dat (.int (L.length : Nat))) (c8 := .dat (.list (nD (szs P R)))) (c9 := y9) (c11 := y11) (c19 := .un) (c20 := .un) ds hds (k2 + 1) L R 0 Q (by omega) (by omega) hL4 hRL (by omega) hRQ f12 f13 b14 f17 n18 n21
  obtain ⟨v13, v14, v17, v18, v21, q13, q14, q17, q18, q21, s4⟩ := l3_ok (c0 := c0) (c2 := .dat d) (c3 := .dat (.int (P : Nat))) (c4 := .dat pla) (c7 := .dat (.int (L.length : Nat))) (c8 := .dat (.list (nD (szs P R)))) (c9 := y9) (c11 := y11) (c12 := .dat (.int ((0 : Nat) : Int))) (c19 := .un) (c20 := .un) ds hds (k2 + 1 + 1 + 1) L R 1 Q (by omega) (by omega) hL4 hRL (by omega) hRQ rfl p13 p14 p17 p18 p21
  have g13 := lb13_s b_law_3 _ _ ((for_step s3).trans ((for_step s4).trans rfl))
  obtain ⟨n, hn, h4⟩ := drawB_nat ds hds (k2 + 1 + 1 + 1 + 1 + 1) 10 (by omega)
  obtain ⟨pl, k3, hpl, hpl4, lc⟩ := lb14_lc (c0 := c0) (c2 := .dat d) (c3 := .dat (.int (P : Nat))) (c4 := .dat pla) (c5 := .dat (.list (qqD L))) (c6 := .dat (.list (nD R))) (c7 := .dat (.int (L.length : Nat))) (c8 := .dat (.list (nD (szs P R)))) (c9 := y9) (c10 := .dat (.int (Q : Nat))) (c11 := y11) (c12 := .dat (.int ((1 : Nat) : Int))) (c13 := v13) (c14 := v14) (c15 := .dat (.list (qqD L))) (c16 := .dat (.list (nD R))) (c17 := v17) (c19 := .un) (c20 := .un) (c21 := v21) ds hds n (k2 + 1 + 1 + 1 + 1 + 1 + 1) 0
  have g14 : lb14 _ = _ := lb14_s f__law_draw _ _ _ _ n (by omega) _ q13 q18 h4 lc
  have g15 := lb15_s (c0 := c0) (c1 := .own (bx ds k3)) (c2 := .dat d) (c3 := .dat (.int (P : Nat))) (c4 := .dat pla) (c5 := .dat (.list (qqD L))) (c6 := .dat (.list (nD R))) (c7 := .dat (.int (L.length : Nat))) (c8 := .dat (.list (nD (szs P R)))) (c9 := y9) (c10 := .dat (.int (Q : Nat))) (c11 := y11) (c12 := .dat (.int ((1 : Nat) : Int))) (c15 := .dat (.list (qqD L))) (c16 := .dat (.list (nD R))) (c17 := v17) (c18 := v18) (c19 := .un) (c20 := .un) (c21 := v21) (pD pl) q14
  obtain ⟨f, hf, e3, e4⟩ := lgaps_ex pl (by omega)
  have g16 := lb16_s (c0 := c0) (c1 := .own (bx ds k3)) (c2 := .dat d) (c3 := .dat (.int (P : Nat))) (c4 := .dat pla) (c5 := .dat (.list (qqD L))) (c6 := .dat (.list (nD R))) (c7 := .dat (.int (L.length : Nat))) (c8 := .dat (.list (nD (szs P R)))) (c9 := y9) (c10 := .dat (.int (Q : Nat))) (c11 := y11) (c12 := .dat (.int ((1 : Nat) : Int))) (c15 := .dat (.list (qqD L))) (c16 := .dat (.list (nD R))) (c17 := v17) (c18 := v18) (c19 := .un) (c20 := .un) (c21 := v21) f__law_same f_gaps_of f__law_gaps _ _ rfl e4 e3 (same_nat f (by omega)) (ne_pD pl)
  refine ⟨k3, .dat d, .dat (.int (P : Nat)), .dat pla, .dat (.list (qqD L)), .dat (.list (nD R)), .dat (.int (L.length : Nat)), .dat (.list (nD (szs P R))), y9, .dat (.int (Q : Nat)), y11, .dat (.int ((1 : Nat) : Int)), .own (.list (pD pl)), .own (.list (pD pl)), .dat (.list (qqD L)), .dat (.list (nD R)), v17, v18, v21, ?_, rfl, rfl, rfl, rfl, rfl, rfl, rfl, b9, rfl, b11, rfl, rfl, rfl, rfl, rfl, q17, q18, q21⟩
  rw [e0, Option.bind_some, lb_is]
  exact (dSeq_nx g1).trans ((dSeq_nx g2).trans ((dSeq_nx g3).trans ((dSeq_nx g4).trans ((dSeq_nx g5).trans ((dSeq_nx g6).trans ((dSeq_nx g7).trans ((dSeq_nx g8).trans ((dSeq_nx g9).trans ((dSeq_nx g10).trans ((dSeq_nx g11).trans ((dSeq_nx g12).trans ((dSeq_nx (t := lb13) g13).trans ((dSeq_nx g14).trans ((dSeq_nx g15).trans g16))))))))))))))
end K49

namespace K49
open PySem HD CM L2
def la1 : SD := (dSetN 1 (dLst (dA1 (dCall [false, false, false] f__law_digits (dA1 (dVar 0) (dA1 (dC (.int 0)) (dA1 (dC (.int 20)) dA0)))) (dA1 (dC (.int 0)) dA0))))
def la2 : SD := (dFor (dIA range1 (dA1 (dC (.int 3)) dA0)) (gdName 2) b_law_1)
def la3 : SD := (dIfS (dOr (dNot (dTr (dCall [false, false] f__law_same (dA1 (dN (dCallO [false, false, false] f_evened (dA1 (dN (dLst dA0)) (dA1 (dN (dLst dA0)) (dA1 (dC (.int 0)) dA0))))) (dA1 (dN (dLst dA0)) dA0))))) (dOr (dNot (dTr (dCall [false, false] f__law_same (dA1 (dCall [false, false] f_even_rooms (dA1 (dN (dLst dA0)) (dA1 (dC (.int 0)) dA0))) (dA1 (dC (.int 0)) dA0))))) (dNot (dTr (dCall [false, false] f__law_same (dA1 (dCall [false, false] f_rooms_needed (dA1 (dN (dLst dA0)) (dA1 (dN (dLst dA0)) dA0))) (dA1 (dC (.int 0)) dA0))))))) (dRet (dC (.bool false))) dNx)
def la4 : SD := (dIfS (dOr (dNot (dTr (dCall [false, false] f__law_same (dA1 (dCall [false] f_gaps_of (dA1 (dN (dLst (dA1 (dC .none) (dA1 (dC (.int 0)) (dA1 (dC .none) (dA1 (dC .none) (dA1 (dC (.int 1)) (dA1 (dC .none) dA0)))))))) dA0)) (dA1 (dC (.int 2)) dA0))))) (dNot (dTr (dCall [false, false] f__law_same (dA1 (dCall [false] f_gaps_of (dA1 (dN (dLst dA0)) dA0)) (dA1 (dC (.int 0)) dA0)))))) (dRet (dC (.bool false))) dNx)
def la5 : SD := (dRet (dAndV (dCall [false, false] f__law_same (dA1 (dCall [false, false] f_even_rooms (dA1 (dN (dLst (dA1 (dTup (dA1 (dC (.int 0)) (dA1 (dC (.int 0)) dA0))) (dA1 (dTup (dA1 (dC (.int 1)) (dA1 (dC (.int 1)) dA0))) (dA1 (dTup (dA1 (dC (.int 2)) (dA1 (dC (.int 2)) dA0))) dA0))))) (dA1 (dC (.int 2)) dA0))) (dA1 (dC (.int 2)) dA0))) (dCall [false, false] f__law_same (dA1 (dN (dCallO [false, false, false, false, false] f_plan_of (dA1 (dN (dLst (dA1 (dTup (dA1 (dC (.int 0)) (dA1 (dC (.int 2)) dA0))) dA0))) (dA1 (dN (dLst (dA1 (dC (.int 1)) dA0))) (dA1 (dC (.int 1)) (dA1 (dC (.int 2)) (dA1 (dC (.int 3)) dA0))))))) (dA1 (dN (dLst (dA1 (dC .none) (dA1 (dC (.int 0)) (dA1 (dC .none) dA0))))) dA0)))))
theorem la_is : f_law = dFn 22 [false] (dSeq la1 (dSeq la2 (dSeq la3 (dSeq la4 la5)))) := rfl
theorem la1_s (F : List D → Option (D × List D)) (s x : D) (h : F [s, .int 0, .int 20] = some (x, [])) : (dSetN 1 (dLst (dA1 (dCall [false, false, false] F (dA1 (dVar 0) (dA1 (dC (.int 0)) (dA1 (dC (.int 20)) dA0)))) (dA1 (dC (.int 0)) dA0)))) [.dat s, .un, .un, .un, .un, .un, .un, .un, .un, .un, .un, .un, .un, .un, .un, .un, .un, .un, .un, .un, .un, .un] = some (.nx [.dat s, .own (.list [x, .int 0]), .un, .un, .un, .un, .un, .un, .un, .un, .un, .un, .un, .un, .un, .un, .un, .un, .un, .un, .un, .un]) := by
  simp [h]
theorem la2_s (B : SD) (e E : HD.Env) (h : dForGo (gdName 2) B (rangeD 0 3) e = some (.nx E)) : (dFor (dIA range1 (dA1 (dC (.int 3)) dA0)) (gdName 2) B) e = some (.nx E) := by
  have hr := r1n (b := 3) (n := 3) (by omega) (by omega) (by omega)
  generalize range1 = RA at *
  simp [hr, h]
theorem la3_s (EV ER RN S : List D → Option (D × List D)) (e : HD.Env) (h1 : EV [.list [], .list [], .int 0] = some (.list [], [])) (h2 : ER [.list [], .int 0] = some (.int 0, [])) (h3 : RN [.list [], .list []] = some (.int 0, [])) (h4 : S [.list [], .list []] = some (.bool true, [])) (h5 : S [.int 0, .int 0] = some (.bool true, [])) :
    (dIfS (dOr (dNot (dTr (dCall [false, false] S (dA1 (dN (dCallO [false, false, false] EV (dA1 (dN (dLst dA0)) (dA1 (dN (dLst dA0)) (dA1 (dC (.int 0)) dA0))))) (dA1 (dN (dLst dA0)) dA0))))) (dOr (dNot (dTr (dCall [false, false] S (dA1 (dCall [false, false] ER (dA1 (dN (dLst dA0)) (dA1 (dC (.int 0)) dA0))) (dA1 (dC (.int 0)) dA0))))) (dNot (dTr (dCall [false, false] S (dA1 (dCall [false, false] RN (dA1 (dN (dLst dA0)) (dA1 (dN (dLst dA0)) dA0))) (dA1 (dC (.int 0)) dA0))))))) (dRet (dC (.bool false))) dNx) e = some (.nx e) := by
  simp [h1, h2, h3, h4, h5]
theorem la4_s (G S : List D → Option (D × List D)) (e : HD.Env) (h1 : G [.list [.none, .int 0, .none, .none, .int 1, .none]] = some (.int 2, [])) (h2 : G [.list []] = some (.int 0, [])) (h3 : S [.int 2, .int 2] = some (.bool true, [])) (h4 : S [.int 0, .int 0] = some (.bool true, [])) : (dIfS (dOr (dNot (dTr (dCall [false, false] S (dA1 (dCall [false] G (dA1 (dN (dLst (dA1 (dC .none) (dA1 (dC (.int 0)) (dA1 (dC .none) (dA1 (dC .none) (dA1 (dC (.int 1)) (dA1 (dC .none) dA0)))))))) dA0)) (dA1 (dC (.int 2)) dA0))))) (dNot (dTr (dCall [false, false] S (dA1 (dCall [false] G (dA1 (dN (dLst dA0)) dA0)) (dA1 (dC (.int 0)) dA0)))))) (dRet (dC (.bool false))) dNx) e = some (.nx e) := by
  simp [h1, h2, h3, h4]
theorem la5_s (ER PL S : List D → Option (D × List D)) (e : HD.Env) (h1 : ER [.list [.tuple [.int 0, .int 0], .tuple [.int 1, .int 1], .tuple [.int 2, .int 2]], .int 2] = some (.int 2, [])) (h2 : PL [.list [.tuple [.int 0, .int 2]], .list [.int 1], .int 1, .int 2, .int 3] = some (.list [.none, .int 0, .none], [])) (h3 : S [.int 2, .int 2] = some (.bool true, [])) (h4 : S [.list [.none, .int 0, .none], .list [.none, .int 0, .none]] = some (.bool true, [])) :
    (dRet (dAndV (dCall [false, false] S (dA1 (dCall [false, false] ER (dA1 (dN (dLst (dA1 (dTup (dA1 (dC (.int 0)) (dA1 (dC (.int 0)) dA0))) (dA1 (dTup (dA1 (dC (.int 1)) (dA1 (dC (.int 1)) dA0))) (dA1 (dTup (dA1 (dC (.int 2)) (dA1 (dC (.int 2)) dA0))) dA0))))) (dA1 (dC (.int 2)) dA0))) (dA1 (dC (.int 2)) dA0))) (dCall [false, false] S (dA1 (dN (dCallO [false, false, false, false, false] PL (dA1 (dN (dLst (dA1 (dTup (dA1 (dC (.int 0)) (dA1 (dC (.int 2)) dA0))) dA0))) (dA1 (dN (dLst (dA1 (dC (.int 1)) dA0))) (dA1 (dC (.int 1)) (dA1 (dC (.int 2)) (dA1 (dC (.int 3)) dA0))))))) (dA1 (dN (dLst (dA1 (dC .none) (dA1 (dC (.int 0)) (dA1 (dC .none) dA0))))) dA0))))) e = some (.rt (.bool true) e) := by
  simp [h1, h2, h3, h4]
theorem ev0 (W : SD) : (dFnO 11 [false, false, false] ((dSeq (dSetN 3 (dCBN D.list1 (dA1 (dVar 1) dA0))) (dSeq (dIfS (dB (dBin D.eq (dVar 2) (dC (.int 0)))) (dRetV 3) dNx) W)))) [.list [], .list [], .int 0] = some (.list [], []) := by
  have e : D.list1 [.list []] = some (.list []) := rfl
  generalize D.list1 = LI at *
  simp [e]
theorem law_true (ns : List Int) (hn : ns.length ≤ 63) : ∃ o, f_law [scr ns] = some (.bool true, o) := by
  obtain ⟨ds, h1, hds, _⟩ := digits_eq ns 0 20 (by omega) (by omega) (by omega)
  have g1 : la1 _ = _ := la1_s f__law_digits (scr ns) _ h1
  obtain ⟨k1, x2, x3, x4, x5, x6, x7, x8, x9, x10, x11, x12, x13, x14, x15, x16, x17, x18, x21, s1, a2, a3, a4, a5, a6, a7, a8, a9, a10, a11, a12, a13, a14, a15, a16, a17, a18, a21⟩ := lap_ok (c0 := .dat (scr ns)) ds hds 0 (.int 0) (c2 := .un) (c3 := .un) (c4 := .un) (c5 := .un) (c6 := .un) (c7 := .un) (c8 := .un) (c9 := .un) (c10 := .un) (c11 := .un) (c12 := .un) (c13 := .un) (c14 := .un) (c15 := .un) (c16 := .un) (c17 := .un) (c18 := .un) (c21 := .un) rfl rfl rfl rfl rfl rfl rfl rfl rfl rfl rfl rfl rfl rfl rfl rfl nown_un nown_un
  obtain ⟨k2, y2, y3, y4, y5, y6, y7, y8, y9, y10, y11, y12, y13, y14, y15, y16, y17, y18, y21, s2, b2, b3, b4, b5, b6, b7, b8, b9, b10, b11, b12, b13, b14, b15, b16, b17, b18, b21⟩ := lap_ok (c0 := .dat (scr ns)) ds hds k1 (.int 1) a2 a3 a4 a5 a6 a7 a8 a9 a10 a11 a12 a13 a14 a15 a16 a17 a18 a21
  obtain ⟨k3, z2, z3, z4, z5, z6, z7, z8, z9, z10, z11, z12, z13, z14, z15, z16, z17, z18, z21, s3, _⟩ := lap_ok (c0 := .dat (scr ns)) ds hds k2 (.int 2) b2 b3 b4 b5 b6 b7 b8 b9 b10 b11 b12 b13 b14 b15 b16 b17 b18 b21
  have g2 := la2_s b_law_1 _ _ ((for_step s1).trans ((for_step s2).trans ((for_step s3).trans rfl)))
  have s0 : f__law_same [.int 0, .int 0] = some (.bool true, []) := same_nat 0 (by omega)
  have s22 : f__law_same [.int 2, .int 2] = some (.bool true, []) := same_nat 2 (by omega)
  have snil : f__law_same [.list [], .list []] = some (.bool true, []) := same_eq _ rfl
  have r0 : f_rooms_needed [.list [], .list []] = some (.int 0, []) := by
    obtain ⟨m, e, _, h⟩ := rooms_ex (.list []) [] (by simp)
    have : m = 0 := by
      rcases h with h | ⟨p, hp, _⟩
      · exact h
      · cases hp
    subst this
    exact e
  have g3 := la3_s f_evened f_even_rooms f_rooms_needed f__law_same [.dat (scr ns), .own (bx ds k3), z2, z3, z4, z5, z6, z7, z8, z9, z10, z11, z12, z13, z14, z15, z16, z17, z18, .un, .un, z21] (ev0 _) (even_0 _) r0 snil s0
  have p1 : f_gaps_of [.list [.none, .int 0, .none, .none, .int 1, .none]] = some (.int 2, []) := gaps_eq [none, some 0, none, none, some 1, none] (by simp)
  have p2 : f_gaps_of [.list []] = some (.int 0, []) := gaps_eq [] (by simp)
  have g4 := la4_s f_gaps_of f__law_same [.dat (scr ns), .own (bx ds k3), z2, z3, z4, z5, z6, z7, z8, z9, z10, z11, z12, z13, z14, z15, z16, z17, z18, .un, .un, z21] p1 p2 s22 s0
  have p3 : f_even_rooms [.list [.tuple [.int 0, .int 0], .tuple [.int 1, .int 1], .tuple [.int 2, .int 2]], .int 2] = some (.int 2, []) := even_eq [(0, 0), (1, 1), (2, 2)] 2 (by simp) (by omega) (by omega)
  have p4 : f_plan_of [.list [.tuple [.int 0, .int 2]], .list [.int 1], .int 1, .int 2, .int 3] = some (.list [.none, .int 0, .none], []) := plan_eq [(0, 2)] [1] 1 2 3 rfl (by omega) (by omega) (by simp)
  have p5 : f__law_same [.list [.none, .int 0, .none], .list [.none, .int 0, .none]] = some (.bool true, []) := same_eq (.list (pD [none, some 0, none])) (ok_pD [none, some 0, none] (by simp) (by
    intro x hx v e
    simp at hx
    rcases hx with h | h | h <;> rw [h] at e <;> cases e <;> omega))
  have g5 := la5_s f_even_rooms f_plan_of f__law_same [.dat (scr ns), .own (bx ds k3), z2, z3, z4, z5, z6, z7, z8, z9, z10, z11, z12, z13, z14, z15, z16, z17, z18, .un, .un, z21] p3 p4 s22 p5
  refine ⟨[], ?_⟩
  rw [la_is]
  exact dFn_rt rfl rfl ((dSeq_nx g1).trans ((dSeq_nx (t := la2) g2).trans ((dSeq_nx g3).trans ((dSeq_nx g4).trans g5)))) rfl
end K49

namespace K49
open PySem PySem.Spec PyProof.Rows L2 RT HD
theorem def_mk {K : PySem.W.Frag} {h : Heap} {mg : Str → Option Value} {x : Str} {st : Stmt} {ps : List Str} {f : Addr} {oc : Value} {od an : Option Addr} {osl : Array (Option Value)} {kV doc pm cdv ct : Value} (X : K.In h) (G : h.Ns mainGlobals mg) (a : PySem.W.nsIn K mainGlobals x = some (some (.ref f))) (l : K.lookup f = some ⟨oc, od, .func (PySem.W.fnOf x x (defArgs st) (defBody st) (defScope st) .none kV doc pm an cdv ct), osl⟩)
    (c : PySem.W.codeIn K cdv x = true) (k : PySem.W.keepIn K (.ref f) = true) (hb : ∀ (kV doc pm : Value) (an : Option Addr) (cdv ct : Value) (us : List Value), us.length = ps.length → bindArgs (PySem.W.fnOf x x (defArgs st) (defBody st) (defScope st) .none kV doc pm an cdv ct) ⟨us, []⟩ = pure (ps.zip us)) : Def K mg x st ps :=
  ⟨f, _, fun_mk (st := st) l c k, PySem.W.mg_of X G a, (fun_mk (st := st) l c k).binds hb⟩
theorem all_mk {l : PySem.W.OpenLaw} {w : World} {K : PySem.W.Frag} {h : Heap} {mg : Str → Option Value} {fa : Addr} (X : K.In h) (G : h.Ns mainGlobals mg) (hfa : mg "law" = some (.ref fa))
    {f0 : Addr} {od0 an0 : Option Addr} {sl0 : Array (Option Value)} {oc0 kV0 dc0 pm0 cd0 ct0 : Value}
    (a0 : PySem.W.nsIn K mainGlobals "rooms_needed" = some (some (.ref f0))) (l0 : K.lookup f0 = some ⟨oc0, od0, .func (PySem.W.fnOf "rooms_needed" "rooms_needed" (defArgs s_rooms_needed) (defBody s_rooms_needed) (defScope s_rooms_needed) .none kV0 dc0 pm0 an0 cd0 ct0), sl0⟩) (c0 : PySem.W.codeIn K cd0 "rooms_needed" = true) (k0 : PySem.W.keepIn K (.ref f0) = true)
    {f1 : Addr} {od1 an1 : Option Addr} {sl1 : Array (Option Value)} {oc1 kV1 dc1 pm1 cd1 ct1 : Value}
    (a1 : PySem.W.nsIn K mainGlobals "even_rooms" = some (some (.ref f1))) (l1 : K.lookup f1 = some ⟨oc1, od1, .func (PySem.W.fnOf "even_rooms" "even_rooms" (defArgs s_even_rooms) (defBody s_even_rooms) (defScope s_even_rooms) .none kV1 dc1 pm1 an1 cd1 ct1), sl1⟩) (c1 : PySem.W.codeIn K cd1 "even_rooms" = true) (k1 : PySem.W.keepIn K (.ref f1) = true)
    {f2 : Addr} {od2 an2 : Option Addr} {sl2 : Array (Option Value)} {oc2 kV2 dc2 pm2 cd2 ct2 : Value}
    (a2 : PySem.W.nsIn K mainGlobals "shares" = some (some (.ref f2))) (l2 : K.lookup f2 = some ⟨oc2, od2, .func (PySem.W.fnOf "shares" "shares" (defArgs s_shares) (defBody s_shares) (defScope s_shares) .none kV2 dc2 pm2 an2 cd2 ct2), sl2⟩) (c2 : PySem.W.codeIn K cd2 "shares" = true) (k2 : PySem.W.keepIn K (.ref f2) = true)
    {f3 : Addr} {od3 an3 : Option Addr} {sl3 : Array (Option Value)} {oc3 kV3 dc3 pm3 cd3 ct3 : Value}
    (a3 : PySem.W.nsIn K mainGlobals "chains_of" = some (some (.ref f3))) (l3 : K.lookup f3 = some ⟨oc3, od3, .func (PySem.W.fnOf "chains_of" "chains_of" (defArgs s_chains_of) (defBody s_chains_of) (defScope s_chains_of) .none kV3 dc3 pm3 an3 cd3 ct3), sl3⟩) (c3 : PySem.W.codeIn K cd3 "chains_of" = true) (k3 : PySem.W.keepIn K (.ref f3) = true)
    {f4 : Addr} {od4 an4 : Option Addr} {sl4 : Array (Option Value)} {oc4 kV4 dc4 pm4 cd4 ct4 : Value}
    (a4 : PySem.W.nsIn K mainGlobals "evened" = some (some (.ref f4))) (l4 : K.lookup f4 = some ⟨oc4, od4, .func (PySem.W.fnOf "evened" "evened" (defArgs s_evened) (defBody s_evened) (defScope s_evened) .none kV4 dc4 pm4 an4 cd4 ct4), sl4⟩) (c4 : PySem.W.codeIn K cd4 "evened" = true) (k4 : PySem.W.keepIn K (.ref f4) = true)
    {f5 : Addr} {od5 an5 : Option Addr} {sl5 : Array (Option Value)} {oc5 kV5 dc5 pm5 cd5 ct5 : Value}
    (a5 : PySem.W.nsIn K mainGlobals "plan_of" = some (some (.ref f5))) (l5 : K.lookup f5 = some ⟨oc5, od5, .func (PySem.W.fnOf "plan_of" "plan_of" (defArgs s_plan_of) (defBody s_plan_of) (defScope s_plan_of) .none kV5 dc5 pm5 an5 cd5 ct5), sl5⟩) (c5 : PySem.W.codeIn K cd5 "plan_of" = true) (k5 : PySem.W.keepIn K (.ref f5) = true)
    {f6 : Addr} {od6 an6 : Option Addr} {sl6 : Array (Option Value)} {oc6 kV6 dc6 pm6 cd6 ct6 : Value}
    (a6 : PySem.W.nsIn K mainGlobals "gaps_of" = some (some (.ref f6))) (l6 : K.lookup f6 = some ⟨oc6, od6, .func (PySem.W.fnOf "gaps_of" "gaps_of" (defArgs s_gaps_of) (defBody s_gaps_of) (defScope s_gaps_of) .none kV6 dc6 pm6 an6 cd6 ct6), sl6⟩) (c6 : PySem.W.codeIn K cd6 "gaps_of" = true) (k6 : PySem.W.keepIn K (.ref f6) = true)
    {f7 : Addr} {od7 an7 : Option Addr} {sl7 : Array (Option Value)} {oc7 kV7 dc7 pm7 cd7 ct7 : Value}
    (a7 : PySem.W.nsIn K mainGlobals "_law_cell" = some (some (.ref f7))) (l7 : K.lookup f7 = some ⟨oc7, od7, .func (PySem.W.fnOf "_law_cell" "_law_cell" (defArgs s__law_cell) (defBody s__law_cell) (defScope s__law_cell) .none kV7 dc7 pm7 an7 cd7 ct7), sl7⟩) (c7 : PySem.W.codeIn K cd7 "_law_cell" = true) (k7 : PySem.W.keepIn K (.ref f7) = true)
    {f8 : Addr} {od8 an8 : Option Addr} {sl8 : Array (Option Value)} {oc8 kV8 dc8 pm8 cd8 ct8 : Value}
    (a8 : PySem.W.nsIn K mainGlobals "_law_digits" = some (some (.ref f8))) (l8 : K.lookup f8 = some ⟨oc8, od8, .func (PySem.W.fnOf "_law_digits" "_law_digits" (defArgs s__law_digits) (defBody s__law_digits) (defScope s__law_digits) .none kV8 dc8 pm8 an8 cd8 ct8), sl8⟩) (c8 : PySem.W.codeIn K cd8 "_law_digits" = true) (k8 : PySem.W.keepIn K (.ref f8) = true)
    {f9 : Addr} {od9 an9 : Option Addr} {sl9 : Array (Option Value)} {oc9 kV9 dc9 pm9 cd9 ct9 : Value}
    (a9 : PySem.W.nsIn K mainGlobals "_law_draw" = some (some (.ref f9))) (l9 : K.lookup f9 = some ⟨oc9, od9, .func (PySem.W.fnOf "_law_draw" "_law_draw" (defArgs s__law_draw) (defBody s__law_draw) (defScope s__law_draw) .none kV9 dc9 pm9 an9 cd9 ct9), sl9⟩) (c9 : PySem.W.codeIn K cd9 "_law_draw" = true) (k9 : PySem.W.keepIn K (.ref f9) = true)
    {f10 : Addr} {od10 an10 : Option Addr} {sl10 : Array (Option Value)} {oc10 kV10 dc10 pm10 cd10 ct10 : Value}
    (a10 : PySem.W.nsIn K mainGlobals "_law_pick" = some (some (.ref f10))) (l10 : K.lookup f10 = some ⟨oc10, od10, .func (PySem.W.fnOf "_law_pick" "_law_pick" (defArgs s__law_pick) (defBody s__law_pick) (defScope s__law_pick) .none kV10 dc10 pm10 an10 cd10 ct10), sl10⟩) (c10 : PySem.W.codeIn K cd10 "_law_pick" = true) (k10 : PySem.W.keepIn K (.ref f10) = true)
    {f11 : Addr} {od11 an11 : Option Addr} {sl11 : Array (Option Value)} {oc11 kV11 dc11 pm11 cd11 ct11 : Value}
    (a11 : PySem.W.nsIn K mainGlobals "_law_same" = some (some (.ref f11))) (l11 : K.lookup f11 = some ⟨oc11, od11, .func (PySem.W.fnOf "_law_same" "_law_same" (defArgs s__law_same) (defBody s__law_same) (defScope s__law_same) .none kV11 dc11 pm11 an11 cd11 ct11), sl11⟩) (c11 : PySem.W.codeIn K cd11 "_law_same" = true) (k11 : PySem.W.keepIn K (.ref f11) = true)
    {f12 : Addr} {od12 an12 : Option Addr} {sl12 : Array (Option Value)} {oc12 kV12 dc12 pm12 cd12 ct12 : Value}
    (a12 : PySem.W.nsIn K mainGlobals "_law_mixed" = some (some (.ref f12))) (l12 : K.lookup f12 = some ⟨oc12, od12, .func (PySem.W.fnOf "_law_mixed" "_law_mixed" (defArgs s__law_mixed) (defBody s__law_mixed) (defScope s__law_mixed) .none kV12 dc12 pm12 an12 cd12 ct12), sl12⟩) (c12 : PySem.W.codeIn K cd12 "_law_mixed" = true) (k12 : PySem.W.keepIn K (.ref f12) = true)
    {f13 : Addr} {od13 an13 : Option Addr} {sl13 : Array (Option Value)} {oc13 kV13 dc13 pm13 cd13 ct13 : Value}
    (a13 : PySem.W.nsIn K mainGlobals "_law_placed" = some (some (.ref f13))) (l13 : K.lookup f13 = some ⟨oc13, od13, .func (PySem.W.fnOf "_law_placed" "_law_placed" (defArgs s__law_placed) (defBody s__law_placed) (defScope s__law_placed) .none kV13 dc13 pm13 an13 cd13 ct13), sl13⟩) (c13 : PySem.W.codeIn K cd13 "_law_placed" = true) (k13 : PySem.W.keepIn K (.ref f13) = true)
    {f14 : Addr} {od14 an14 : Option Addr} {sl14 : Array (Option Value)} {oc14 kV14 dc14 pm14 cd14 ct14 : Value}
    (a14 : PySem.W.nsIn K mainGlobals "_law_even" = some (some (.ref f14))) (l14 : K.lookup f14 = some ⟨oc14, od14, .func (PySem.W.fnOf "_law_even" "_law_even" (defArgs s__law_even) (defBody s__law_even) (defScope s__law_even) .none kV14 dc14 pm14 an14 cd14 ct14), sl14⟩) (c14 : PySem.W.codeIn K cd14 "_law_even" = true) (k14 : PySem.W.keepIn K (.ref f14) = true)
    {f15 : Addr} {od15 an15 : Option Addr} {sl15 : Array (Option Value)} {oc15 kV15 dc15 pm15 cd15 ct15 : Value}
    (a15 : PySem.W.nsIn K mainGlobals "_law_gaps" = some (some (.ref f15))) (l15 : K.lookup f15 = some ⟨oc15, od15, .func (PySem.W.fnOf "_law_gaps" "_law_gaps" (defArgs s__law_gaps) (defBody s__law_gaps) (defScope s__law_gaps) .none kV15 dc15 pm15 an15 cd15 ct15), sl15⟩) (c15 : PySem.W.codeIn K cd15 "_law_gaps" = true) (k15 : PySem.W.keepIn K (.ref f15) = true)
    {f16 : Addr} {od16 an16 : Option Addr} {sl16 : Array (Option Value)} {oc16 kV16 dc16 pm16 cd16 ct16 : Value}
    (a16 : PySem.W.nsIn K mainGlobals "law" = some (some (.ref f16))) (l16 : K.lookup f16 = some ⟨oc16, od16, .func (PySem.W.fnOf "law" "law" (defArgs s_law) (defBody s_law) (defScope s_law) .none kV16 dc16 pm16 an16 cd16 ct16), sl16⟩) (c16 : PySem.W.codeIn K cd16 "law" = true) (k16 : PySem.W.keepIn K (.ref f16) = true)
    (z_bool : PySem.W.nsIn K mainGlobals "bool" = some none)
    (z_enumerate : PySem.W.nsIn K mainGlobals "enumerate" = some none)
    (z_int : PySem.W.nsIn K mainGlobals "int" = some none)
    (z_isinstance : PySem.W.nsIn K mainGlobals "isinstance" = some none)
    (z_len : PySem.W.nsIn K mainGlobals "len" = some none)
    (z_list : PySem.W.nsIn K mainGlobals "list" = some none)
    (z_max : PySem.W.nsIn K mainGlobals "max" = some none)
    (z_min : PySem.W.nsIn K mainGlobals "min" = some none)
    (z_range : PySem.W.nsIn K mainGlobals "range" = some none)
    (z_repr : PySem.W.nsIn K mainGlobals "repr" = some none)
    (z_sorted : PySem.W.nsIn K mainGlobals "sorted" = some none)
    (z_str : PySem.W.nsIn K mainGlobals "str" = some none)
    (z_tuple : PySem.W.nsIn K mainGlobals "tuple" = some none)
    : ∃ fd : FuncData, (∀ (s : Shared) (v : Value), BindsTo s fd ⟨[v], []⟩ [("script", v)]) ∧ ∀ base : Heap, K.In base → base.Ns mainGlobals mg → FnOk l.prog w K mg base CX0 9 fa fd ["script"] (spF K [false] f_law) := by
  have e := hfa.symm.trans (PySem.W.mg_of X G a16)
  cases e
  have T : Bl K mg := ⟨PySem.W.mg_none_of X G z_bool, PySem.W.mg_none_of X G z_enumerate, PySem.W.mg_none_of X G z_int, PySem.W.mg_none_of X G z_isinstance, PySem.W.mg_none_of X G z_len, PySem.W.mg_none_of X G z_list, PySem.W.mg_none_of X G z_max, PySem.W.mg_none_of X G z_min, PySem.W.mg_none_of X G z_range, PySem.W.mg_none_of X G z_repr, PySem.W.mg_none_of X G z_sorted, PySem.W.mg_none_of X G z_str, PySem.W.mg_none_of X G z_tuple⟩
  have d0 : Def K mg "rooms_needed" s_rooms_needed p_rooms_needed := def_mk X G a0 l0 c0 k0 (fun _ _ _ _ _ _ us hl => match us, hl with | [_, _], _ => rfl)
  have d1 : Def K mg "even_rooms" s_even_rooms p_even_rooms := def_mk X G a1 l1 c1 k1 (fun _ _ _ _ _ _ us hl => match us, hl with | [_, _], _ => rfl)
  have d2 : Def K mg "shares" s_shares p_shares := def_mk X G a2 l2 c2 k2 (fun _ _ _ _ _ _ us hl => match us, hl with | [_, _, _], _ => rfl)
  have d3 : Def K mg "chains_of" s_chains_of p_chains_of := def_mk X G a3 l3 c3 k3 (fun _ _ _ _ _ _ us hl => match us, hl with | [_, _, _, _], _ => rfl)
  have d4 : Def K mg "evened" s_evened p_evened := def_mk X G a4 l4 c4 k4 (fun _ _ _ _ _ _ us hl => match us, hl with | [_, _, _], _ => rfl)
  have d5 : Def K mg "plan_of" s_plan_of p_plan_of := def_mk X G a5 l5 c5 k5 (fun _ _ _ _ _ _ us hl => match us, hl with | [_, _, _, _, _], _ => rfl)
  have d6 : Def K mg "gaps_of" s_gaps_of p_gaps_of := def_mk X G a6 l6 c6 k6 (fun _ _ _ _ _ _ us hl => match us, hl with | [_], _ => rfl)
  have d7 : Def K mg "_law_cell" s__law_cell p__law_cell := def_mk X G a7 l7 c7 k7 (fun _ _ _ _ _ _ us hl => match us, hl with | [_, _], _ => rfl)
  have d8 : Def K mg "_law_digits" s__law_digits p__law_digits := def_mk X G a8 l8 c8 k8 (fun _ _ _ _ _ _ us hl => match us, hl with | [_, _, _], _ => rfl)
  have d9 : Def K mg "_law_draw" s__law_draw p__law_draw := def_mk X G a9 l9 c9 k9 (fun _ _ _ _ _ _ us hl => match us, hl with | [_, _], _ => rfl)
  have d10 : Def K mg "_law_pick" s__law_pick p__law_pick := def_mk X G a10 l10 c10 k10 (fun _ _ _ _ _ _ us hl => match us, hl with | [_, _], _ => rfl)
  have d11 : Def K mg "_law_same" s__law_same p__law_same := def_mk X G a11 l11 c11 k11 (fun _ _ _ _ _ _ us hl => match us, hl with | [_, _], _ => rfl)
  have d12 : Def K mg "_law_mixed" s__law_mixed p__law_mixed := def_mk X G a12 l12 c12 k12 (fun _ _ _ _ _ _ us hl => match us, hl with | [_, _], _ => rfl)
  have d13 : Def K mg "_law_placed" s__law_placed p__law_placed := def_mk X G a13 l13 c13 k13 (fun _ _ _ _ _ _ us hl => match us, hl with | [_, _], _ => rfl)
  have d14 : Def K mg "_law_even" s__law_even p__law_even := def_mk X G a14 l14 c14 k14 (fun _ _ _ _ _ _ us hl => match us, hl with | [_, _, _, _], _ => rfl)
  have d15 : Def K mg "_law_gaps" s__law_gaps p__law_gaps := def_mk X G a15 l15 c15 k15 (fun _ _ _ _ _ _ us hl => match us, hl with | [_], _ => rfl)
  have d16 : Def K mg "law" s_law p_law := def_mk X G a16 l16 c16 k16 (fun _ _ _ _ _ _ us hl => match us, hl with | [_], _ => rfl)
  refine ⟨PySem.W.fnOf "law" "law" (defArgs s_law) (defBody s_law) (defScope s_law) .none kV16 dc16 pm16 an16 cd16 ct16, fun s v => .of_eq rfl, fun base _ _ => ?_⟩
  exact cal_end (c_all (P := l.prog) (w := w) (base := base) T d0 d1 d2 d3 d4 d5 d6 d7 d8 d9 d10 d11 d12 d13 d14 d15 d16) (PySem.W.mg_of X G a16) l16
end K49
open PySem PySem.W PyProof.Rows
set_option maxHeartbeats 0 in
theorem PySem.Challenge.cw_schoollands_k49_whole_rooms_and_plans_holds : PySem.Challenge.rw_schoollands_k49_whole_rooms_and_plans.Holds := by
  w_on; o_law; k_head; (case hw => w_witness2)
  k_fill
  refine L2.walk_ofK (l := PySem.Challenge.rw_schoollands_k49_whole_rooms_and_plans) (n := 63) (k := 9) (x := "script") (CX := L2.CX0) (sp := fun K => HD.spF K [false] K49.f_law) rfl (by decide) rfl ⟨rfl, by decide, by decide⟩ (fun w h Y => PySem.W.kIn_of Y) ?F (fun K H a ns hl _ hS => HD.spF_law K49.law_true H a ns hl hS) (fun _ _ _ _ h => h)
  case F =>
    intro w mg fa h KX G hmg
    refine' K49.all_mk KX G hmg ?a0 ?l0 ?c0 ?k0 ?a1 ?l1 ?c1 ?k1 ?a2 ?l2 ?c2 ?k2 ?a3 ?l3 ?c3 ?k3 ?a4 ?l4 ?c4 ?k4 ?a5 ?l5 ?c5 ?k5 ?a6 ?l6 ?c6 ?k6 ?a7 ?l7 ?c7 ?k7 ?a8 ?l8 ?c8 ?k8 ?a9 ?l9 ?c9 ?k9 ?a10 ?l10 ?c10 ?k10 ?a11 ?l11 ?c11 ?k11 ?a12 ?l12 ?c12 ?k12 ?a13 ?l13 ?c13 ?k13 ?a14 ?l14 ?c14 ?k14 ?a15 ?l15 ?c15 ?k15 ?a16 ?l16 ?c16 ?k16 ?z_bool ?z_enumerate ?z_int ?z_isinstance ?z_len ?z_list ?z_max ?z_min ?z_range ?z_repr ?z_sorted ?z_str ?z_tuple
    (case a0 => k_is)
    (case l0 => k_is)
    (case c0 => k_is)
    (case k0 => k_is)
    (case a1 => k_is)
    (case l1 => k_is)
    (case c1 => k_is)
    (case k1 => k_is)
    (case a2 => k_is)
    (case l2 => k_is)
    (case c2 => k_is)
    (case k2 => k_is)
    (case a3 => k_is)
    (case l3 => k_is)
    (case c3 => k_is)
    (case k3 => k_is)
    (case a4 => k_is)
    (case l4 => k_is)
    (case c4 => k_is)
    (case k4 => k_is)
    (case a5 => k_is)
    (case l5 => k_is)
    (case c5 => k_is)
    (case k5 => k_is)
    (case a6 => k_is)
    (case l6 => k_is)
    (case c6 => k_is)
    (case k6 => k_is)
    (case a7 => k_is)
    (case l7 => k_is)
    (case c7 => k_is)
    (case k7 => k_is)
    (case a8 => k_is)
    (case l8 => k_is)
    (case c8 => k_is)
    (case k8 => k_is)
    (case a9 => k_is)
    (case l9 => k_is)
    (case c9 => k_is)
    (case k9 => k_is)
    (case a10 => k_is)
    (case l10 => k_is)
    (case c10 => k_is)
    (case k10 => k_is)
    (case a11 => k_is)
    (case l11 => k_is)
    (case c11 => k_is)
    (case k11 => k_is)
    (case a12 => k_is)
    (case l12 => k_is)
    (case c12 => k_is)
    (case k12 => k_is)
    (case a13 => k_is)
    (case l13 => k_is)
    (case c13 => k_is)
    (case k13 => k_is)
    (case a14 => k_is)
    (case l14 => k_is)
    (case c14 => k_is)
    (case k14 => k_is)
    (case a15 => k_is)
    (case l15 => k_is)
    (case c15 => k_is)
    (case k15 => k_is)
    (case a16 => k_is)
    (case l16 => k_is)
    (case c16 => k_is)
    (case k16 => k_is)
    (case z_bool => k_is)
    (case z_enumerate => k_is)
    (case z_int => k_is)
    (case z_isinstance => k_is)
    (case z_len => k_is)
    (case z_list => k_is)
    (case z_max => k_is)
    (case z_min => k_is)
    (case z_range => k_is)
    (case z_repr => k_is)
    (case z_sorted => k_is)
    (case z_str => k_is)
    (case z_tuple => k_is)
