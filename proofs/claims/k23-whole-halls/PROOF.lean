import PyProof.Rows.All
import Wide.All
import OpenK.AllK
import Wide.FinOn
import HandS.ForMost
import HandS.Walk
import HandS.Evl
import HandS.Wide
import KE.SortKeyHeap
import HandS.Conv
import HandS.Nested
import HandS.ClsMeth
import HandS.Small
import HandS.Defaults
import KE.KStateDown
import HandS.Head0
import HandS.Head1
import HandS.Head2
import HandS.HeadHook1
import HandS.HeadHook2
import HandS.HeadHook3
import HandS.HeadHook4
import HandS.EndTab
import HandS.HeadWalk
import PySem.Challenge.RW_elderhouse_k23_whole_halls
set_option Elab.async false
set_option linter.all false
set_option maxRecDepth 100000
set_option maxHeartbeats 4000000
/-! Plain data under the hand layer: what a value stands for in a heap; slots by data; what a reading comes to, told by data alone. -/
namespace DL
open PySem PySem.Spec PyProof.Rows L2 Evl

/-- plain data: what a value stands for -/
inductive D where
  | non | bool (b : Bool) | int (i : Int) | str (s : Str)
  | list (ds : List D) | tup (ds : List D) | scr (ns : List Int)
  | dic (kvs : List (Str × D)) | ins (C : Addr) (fs : List (Str × D))

mutual
/-- the value v stands for d in the heap H -/
inductive Rp (K : PySem.W.Frag) (H : Hp) : V → D → Prop
  | non : Rp K H .non .non
  | bool (b : Bool) : Rp K H (.bl b) (.bool b)
  | int (i : Int) : Rp K H (.int i) (.int i)
  | str (s : Str) : Rp K H (.str s) (.str s)
  | list {a : Addr} {xs : List V} {ds : List D} : H a = some (.lst xs) → RpAll K H xs ds → Rp K H (.ref a) (.list ds)
  | tup {a : Addr} {xs : List V} {ds : List D} : H a = some (.tup xs) → RpAll K H xs ds → Rp K H (.ref a) (.tup ds)
  | scr {a : Addr} {ns : List Int} : SqL K H a (ns.map V.int) → Rp K H (.ref a) (.scr ns)
  | dic {a : Addr} {kvs : List (Str × V)} {ds : List (Str × D)} : H a = some (.dK (kvs.map fun p => (Sum.inr p.1, p.2))) → RpKv K H kvs ds → Rp K H (.ref a) (.dic ds)
  | ins {a C dx : Addr} {fs : List (Str × V)} {ds : List (Str × D)} : H a = some (.ins C dx fs) → RpKv K H fs ds → Rp K H (.ref a) (.ins C ds)
inductive RpAll (K : PySem.W.Frag) (H : Hp) : List V → List D → Prop
  | nil : RpAll K H [] []
  | cons {v : V} {vs : List V} {d : D} {ds : List D} : Rp K H v d → RpAll K H vs ds → RpAll K H (v :: vs) (d :: ds)
inductive RpKv (K : PySem.W.Frag) (H : Hp) : List (Str × V) → List (Str × D) → Prop
  | nil : RpKv K H [] []
  | cons {k : Str} {v : V} {vs : List (Str × V)} {d : D} {ds : List (Str × D)} : Rp K H v d → RpKv K H vs ds → RpKv K H ((k, v) :: vs) ((k, d) :: ds)
end
section
variable {K : PySem.W.Frag} {H H' : Hp}
theorem Rp.mono (e : Ex H H') {v : V} {d : D} (h : Rp K H v d) : Rp K H' v d := by
  refine Rp.rec (motive_1 := fun v d _ => Rp K H' v d) (motive_2 := fun vs ds _ => RpAll K H' vs ds) (motive_3 := fun kvs ds _ => RpKv K H' kvs ds)
    .non .bool .int .str (fun ha _ ih => .list (e _ _ ha) ih) (fun ha _ ih => .tup (e _ _ ha) ih) (fun hs => .scr (ex_l e hs)) (fun ha _ ih => .dic (e _ _ ha) ih) (fun ha _ ih => .ins (e _ _ ha) ih)
    .nil (fun _ _ h1 h2 => .cons h1 h2) .nil (fun _ _ h1 h2 => .cons h1 h2) h
theorem RpAll.mono (e : Ex H H') : ∀ {vs : List V} {ds : List D}, RpAll K H vs ds → RpAll K H' vs ds
  | _, _, .nil => .nil
  | _, _, .cons h r => .cons (h.mono e) (RpAll.mono e r)
theorem RpKv.mono (e : Ex H H') : ∀ {vs : List (Str × V)} {ds : List (Str × D)}, RpKv K H vs ds → RpKv K H' vs ds
  | _, _, .nil => .nil
  | _, _, .cons h r => .cons (h.mono e) (RpKv.mono e r)
theorem RpAll.len : ∀ {vs : List V} {ds : List D}, RpAll K H vs ds → vs.length = ds.length
  | _, _, .nil => rfl
  | _, _, .cons _ r => by rw [List.length_cons, List.length_cons, RpAll.len r]
theorem RpAll.get : ∀ {vs : List V} {ds : List D} {i : Nat} {d : D}, RpAll K H vs ds → ds[i]? = some d → ∃ v, vs[i]? = some v ∧ Rp K H v d
  | _, _, _, _, .nil, e => by simp at e
  | _, _, 0, _, .cons h _, e => by simp at e; subst e; exact ⟨_, rfl, h⟩
  | _, _, i + 1, _, .cons _ r, e => by
    obtain ⟨v, h1, h2⟩ := RpAll.get (i := i) r (by simpa using e)
    exact ⟨v, by simpa using h1, h2⟩
theorem RpAll.getV : ∀ {vs : List V} {ds : List D} {i : Nat} {v : V}, RpAll K H vs ds → vs[i]? = some v → ∃ d, ds[i]? = some d ∧ Rp K H v d
  | _, _, _, _, .nil, e => by simp at e
  | _, _, 0, _, .cons h _, e => by simp at e; subst e; exact ⟨_, rfl, h⟩
  | _, _, i + 1, _, .cons _ r, e => by
    obtain ⟨v, h1, h2⟩ := RpAll.getV (i := i) r (by simpa using e)
    exact ⟨v, by simpa using h1, h2⟩
theorem RpAll.app : ∀ {vs ws : List V} {ds es : List D}, RpAll K H vs ds → RpAll K H ws es → RpAll K H (vs ++ ws) (ds ++ es)
  | _, _, _, _, .nil, q => q
  | _, _, _, _, .cons h r, q => .cons h (RpAll.app r q)
theorem RpAll.take : ∀ {vs : List V} {ds : List D} (n : Nat), RpAll K H vs ds → RpAll K H (vs.take n) (ds.take n)
  | _, _, 0, _ => .nil
  | _, _, _ + 1, .nil => .nil
  | _, _, n + 1, .cons h r => .cons h (RpAll.take n r)
theorem RpAll.drop : ∀ {vs : List V} {ds : List D} (n : Nat), RpAll K H vs ds → RpAll K H (vs.drop n) (ds.drop n)
  | _, _, 0, q => q
  | _, _, _ + 1, .nil => .nil
  | _, _, n + 1, .cons _ r => RpAll.drop n r
theorem RpAll.set {v : V} {d : D} (h : Rp K H v d) : ∀ {vs : List V} {ds : List D} (i : Nat), RpAll K H vs ds → RpAll K H (vs.set i v) (ds.set i d)
  | _, _, _, .nil => .nil
  | _, _, 0, .cons _ r => .cons h r
  | _, _, i + 1, .cons q r => .cons q (RpAll.set h i r)
theorem RpAll.rep {v : V} {d : D} (h : Rp K H v d) : ∀ n : Nat, RpAll K H (List.replicate n v) (List.replicate n d)
  | 0 => .nil
  | n + 1 => by rw [List.replicate_succ, List.replicate_succ]; exact .cons h (RpAll.rep h n)
theorem RpAll.one {v : V} {d : D} (h : Rp K H v d) : RpAll K H [v] [d] := .cons h .nil
theorem RpAll.snoc {vs : List V} {ds : List D} {v : V} {d : D} (h : RpAll K H vs ds) (q : Rp K H v d) : RpAll K H (vs ++ [v]) (ds ++ [d]) := h.app (.one q)
theorem RpAll.rev : ∀ {vs : List V} {ds : List D}, RpAll K H vs ds → RpAll K H vs.reverse ds.reverse
  | _, _, .nil => .nil
  | _, _, .cons h r => by rw [List.reverse_cons, List.reverse_cons]; exact (RpAll.rev r).snoc h
theorem RpKv.look : ∀ {vs : List (Str × V)} {ds : List (Str × D)} {k : Str} {d : D}, RpKv K H vs ds → ds.lookup k = some d → ∃ v, vs.lookup k = some v ∧ Rp K H v d
  | _, _, _, _, .nil, e => by simp at e
  | _, _, k, d, .cons (k := k') h r, e => by
    rw [List.lookup_cons] at e ⊢
    cases hk : k == k' with
    | true =>
      rw [hk] at e
      cases e
      exact ⟨_, rfl, h⟩
    | false =>
      rw [hk] at e
      exact RpKv.look r e
theorem RpKv.lookN : ∀ {vs : List (Str × V)} {ds : List (Str × D)} {k : Str}, RpKv K H vs ds → ds.lookup k = none → vs.lookup k = none
  | _, _, _, .nil, _ => rfl
  | _, _, k, .cons (k := k') h r, e => by
    rw [List.lookup_cons] at e ⊢
    cases hk : k == k' with
    | true =>
      rw [hk] at e
      cases e
    | false =>
      rw [hk] at e
      exact RpKv.lookN r e
theorem Rp.int_inv {v : V} {i : Int} (h : Rp K H v (.int i)) : v = .int i := by cases h; rfl
theorem Rp.str_inv {v : V} {s : Str} (h : Rp K H v (.str s)) : v = .str s := by cases h; rfl
theorem Rp.bool_inv {v : V} {b : Bool} (h : Rp K H v (.bool b)) : v = .bl b := by cases h; rfl
theorem Rp.non_inv {v : V} (h : Rp K H v .non) : v = .non := by cases h; rfl
theorem Rp.list_inv {v : V} {ds : List D} (h : Rp K H v (.list ds)) : ∃ a xs, v = .ref a ∧ H a = some (.lst xs) ∧ RpAll K H xs ds := by cases h with | list a b => exact ⟨_, _, rfl, a, b⟩
theorem Rp.tup_inv {v : V} {ds : List D} (h : Rp K H v (.tup ds)) : ∃ a xs, v = .ref a ∧ H a = some (.tup xs) ∧ RpAll K H xs ds := by cases h with | tup a b => exact ⟨_, _, rfl, a, b⟩
theorem Rp.scr_inv {v : V} {ns : List Int} (h : Rp K H v (.scr ns)) : ∃ a, v = .ref a ∧ SqL K H a (ns.map V.int) := by cases h with | scr a => exact ⟨_, rfl, a⟩
theorem Rp.dic_inv {v : V} {ds : List (Str × D)} (h : Rp K H v (.dic ds)) : ∃ (a : Addr) (kvs : List (Str × V)), v = .ref a ∧ H a = some (.dK (kvs.map fun p => (Sum.inr p.1, p.2))) ∧ RpKv K H kvs ds := by cases h with | dic a b => exact ⟨_, _, rfl, a, b⟩
theorem Rp.ins_inv {v : V} {C : Addr} {ds : List (Str × D)} (h : Rp K H v (.ins C ds)) : ∃ (a dx : Addr) (fs : List (Str × V)), v = .ref a ∧ H a = some (.ins C dx fs) ∧ RpKv K H fs ds := by cases h with | ins a b => exact ⟨_, _, _, rfl, a, b⟩
theorem RpAll.ints : ∀ {vs : List V} {ns : List Int}, RpAll K H vs (ns.map D.int) → vs = ns.map V.int
  | [], [], _ => rfl
  | _, n :: ns, h => by
    cases h with
    | cons h r => rw [h.int_inv, RpAll.ints r]; rfl
theorem RpAll.strs : ∀ {vs : List V} {ns : List Str}, RpAll K H vs (ns.map D.str) → vs = ns.map V.str
  | [], [], _ => rfl
  | _, n :: ns, h => by
    cases h with
    | cons h r => rw [h.str_inv, RpAll.strs r]; rfl
theorem RpAll.ofInts : ∀ ns : List Int, RpAll K H (ns.map V.int) (ns.map D.int)
  | [] => .nil
  | n :: ns => .cons (.int n) (RpAll.ofInts ns)
end

/-! ### a heap without some addresses -/
def hide (F : List Addr) (H : Hp) : Hp := fun a => if a ∈ F then none else H a
section
variable {F F' : List Addr} {H H' : Hp} {p : Addr} {o : HO}
theorem hide_sub : Ex (hide F H) H := fun a u e => by
  unfold hide at e
  split at e
  · cases e
  · exact e
theorem hide_mono (e : Ex H H') : Ex (hide F H) (hide F H') := fun a u q => by
  unfold hide at q ⊢
  split at q
  · cases q
  · rename_i h
    rw [if_neg h]
    exact e a u q
theorem hide_anti (s : ∀ a ∈ F, a ∈ F') : Ex (hide F' H) (hide F H) := fun a u q => by
  unfold hide at q ⊢
  split at q
  · cases q
  · rename_i h
    rw [if_neg (fun z => h (s a z))]
    exact q
theorem hide_some {a : Addr} (h : a ∉ F) (e : H a = some o) : hide F H a = some o := by
  unfold hide
  rw [if_neg h]
  exact e
theorem hide_at {a : Addr} (e : hide F H a = some o) : a ∉ F ∧ H a = some o := by
  unfold hide at e
  split at e
  · cases e
  · rename_i h
    exact ⟨h, e⟩
/-- a new object is seen -/
theorem hide_new (h : p ∉ F) : Ex (upd (hide F H) p o) (hide F (upd H p o)) := fun a u e => by
  by_cases ha : a = p
  · subst ha
    rw [upd_same] at e
    exact hide_some h (by rw [upd_same]; exact e)
  · rw [upd_ne ha] at e
    obtain ⟨h1, h2⟩ := hide_at e
    exact hide_some h1 (by rw [upd_ne ha]; exact h2)
/-- a hidden object's change is not seen -/
theorem hide_in (h : p ∈ F) : Ex (hide F H) (hide F (upd H p o)) := fun a u e => by
  obtain ⟨h1, h2⟩ := hide_at e
  exact hide_some h1 (by rw [upd_ne (fun z => h1 (by rw [z]; exact h))]; exact h2)
/-- one more hidden, that was not there -/
theorem hide_more (hn : H p = none) (e : Ex H H') : Ex (hide F H) (hide (p :: F) H') := fun a u q => by
  obtain ⟨h1, h2⟩ := hide_at q
  refine hide_some (fun z => ?_) (e a u h2)
  rcases List.mem_cons.mp z with z | z
  · rw [z, hn] at h2; cases h2
  · exact h1 z
end

/-! ### the heap's part of a state: B the heap at the beginning (of the def, of a loop), F0 what the callers hide, F what is hidden now -/
structure HS (B : Hp) (F0 F : List Addr) (H : Hp) : Prop where
  ex : Ex B H
  sub : ∀ a ∈ F0, a ∈ F
  new : ∀ a ∈ F, a ∈ F0 ∨ B a = none
  dom : ∀ a ∈ F, H a ≠ none
  dom0 : ∀ a ∈ F0, B a ≠ none
section
variable {B B' H H' : Hp} {F0 F : List Addr} {p : Addr} {o : HO}
theorem HS.mono (h : HS B F0 F H) (e : Ex H H') : HS B F0 F H' := ⟨h.ex.trans e, h.sub, h.new, fun a ha => by
  cases q : H a with
  | none => exact absurd q (h.dom a ha)
  | some u => rw [e a u q]; simp, h.dom0⟩
theorem HS.fresh (h : HS B F0 F H) (hp : H p = none) : p ∉ F := fun z => h.dom p z hp
theorem HS.freshB (h : HS B F0 F H) (hp : H p = none) : B p = none := fresh_back h.ex hp
/-- what was seen at the beginning is seen still -/
theorem HS.seen (h : HS B F0 F H) : Ex (hide F0 B) (hide F H) := fun a u e => by
  obtain ⟨h1, h2⟩ := hide_at e
  refine hide_some (fun z => ?_) (h.ex a u h2)
  rcases h.new a z with q | q
  · exact h1 q
  · rw [q] at h2; cases h2
theorem HS.hide0 (h : HS B F0 F H) : Ex (hide F H) (hide F0 H) := hide_anti h.sub
theorem HS.cons (h : HS B F0 F H) (hp : H p = none) (e : Ex H H') (hp' : H' p = some o) : HS B F0 (p :: F) H' :=
  ⟨h.ex.trans e, fun a ha => List.mem_cons_of_mem _ (h.sub a ha), fun a ha => by
    rcases List.mem_cons.mp ha with z | z
    · rw [z]; exact .inr (h.freshB hp)
    · exact h.new a z, fun a ha => by
    rcases List.mem_cons.mp ha with z | z
    · rw [z, hp']; simp
    · exact (h.mono e).dom a z, h.dom0⟩
/-- a hidden object of one's own changes -/
theorem HS.write (h : HS B F0 F H) (hp : p ∈ F) (hb : B p = none) : HS B F0 F (upd H p o) :=
  ⟨h.ex.mut hb, h.sub, h.new, fun a ha => by
    by_cases z : a = p
    · rw [z, upd_same]; simp
    · rw [upd_ne z]; exact h.dom a ha, h.dom0⟩
/-- the beginning moved to here -/
def reb (F0 F : List Addr) (H : Hp) : Hp := hide (F.filter fun a => decide (a ∉ F0)) H
theorem HS.reb (h : HS B F0 F H) : HS (reb F0 F H) F0 F H :=
  ⟨hide_sub, h.sub, fun a ha => by
    by_cases z : a ∈ F0
    · exact .inl z
    · refine .inr ?_
      unfold DL.reb hide
      rw [if_pos (List.mem_filter.mpr ⟨ha, by simpa using z⟩)], h.dom, fun a ha => by
    unfold DL.reb hide
    rw [if_neg (fun z => by have := (List.mem_filter.mp z).2; simp at this; exact this ha)]
    exact h.dom a (h.sub a ha)⟩
theorem HS.rebEx (h : HS B F0 F H) : Ex B (DL.reb F0 F H) := fun a u e => by
  refine hide_some (fun z => ?_) (h.ex a u e)
  obtain ⟨z1, z2⟩ := List.mem_filter.mp z
  rcases h.new a z1 with q | q
  · simp at z2; exact z2 q
  · rw [q] at e; cases e
theorem HS.rebSeen (h : HS B F0 F H) : Ex (hide F H) (hide F0 (DL.reb F0 F H)) := fun a u e => by
  obtain ⟨h1, h2⟩ := hide_at e
  exact hide_some (fun z => h1 (h.sub a z)) (hide_some (fun z => h1 (List.mem_filter.mp z).1) h2)
theorem HS.unreb (h : HS B' F0 F H) (e : Ex B B') (d0 : ∀ a ∈ F0, B a ≠ none) : HS B F0 F H :=
  ⟨e.trans h.ex, h.sub, fun a ha => (h.new a ha).imp id (fresh_back e), h.dom, d0⟩
end

/-! ### slots -/
inductive Slot where
  | no | dat (d : D) | own (ds : List D)
/-- what a slot holds: nothing that is told, data, a list of one's own that may be changed -/
def SlotR (K : PySem.W.Frag) (B : Hp) (F : List Addr) (H : Hp) (o : Option (Option V)) : Slot → Prop
  | .no => True
  | .dat d => ∃ v, o = some (some v) ∧ Rp K (hide F H) v d
  | .own ds => ∃ p xs, o = some (some (.ref p)) ∧ p ∈ F ∧ B p = none ∧ H p = some (.lst xs) ∧ RpAll K (hide F H) xs ds
structure ST (K : PySem.W.Frag) (B : Hp) (F0 F : List Addr) (σ : L2.St) (H : Hp) (ρ : List Slot) : Prop where
  hs : HS B F0 F H
  len : ρ.length = σ.length
  sl : ∀ (i : Nat) (s : Slot), ρ[i]? = some s → SlotR K B F H σ[i]? s
  ap : ∀ (i j : Nat) (ds es : List D) (p : Addr), i ≠ j → ρ[i]? = some (.own ds) → ρ[j]? = some (.own es) → σ[i]? = some (some (.ref p)) → σ[j]? ≠ some (some (.ref p))
section
variable {K : PySem.W.Frag} {B B' H H' : Hp} {F0 F : List Addr} {σ : L2.St} {ρ : List Slot} {i : Nat} {v : V} {d : D} {ds : List D} {p : Addr} {o : HO} {xs : List V}
theorem SlotR.mono {ov : Option (Option V)} {s : Slot} (h : SlotR K B F H ov s) (e : Ex H H') : SlotR K B F H' ov s := by
  cases s with
  | no => trivial
  | dat d =>
    obtain ⟨v, e1, r⟩ := h
    exact ⟨v, e1, r.mono (hide_mono e)⟩
  | own ds =>
    obtain ⟨p, xs, e1, hp, hb, hx, r⟩ := h
    exact ⟨p, xs, e1, hp, hb, e _ _ hx, r.mono (hide_mono e)⟩
theorem ST.mono (h : ST K B F0 F σ H ρ) (e : Ex H H') : ST K B F0 F σ H' ρ := ⟨h.hs.mono e, h.len, fun i s q => (h.sl i s q).mono e, h.ap⟩
theorem ST.dat (h : ST K B F0 F σ H ρ) (e : ρ[i]? = some (.dat d)) : ∃ v, σ[i]? = some (some v) ∧ Rp K (hide F H) v d := h.sl i _ e
theorem ST.own (h : ST K B F0 F σ H ρ) (e : ρ[i]? = some (.own ds)) : ∃ p xs, σ[i]? = some (some (.ref p)) ∧ p ∈ F ∧ B p = none ∧ H p = some (.lst xs) ∧ RpAll K (hide F H) xs ds := h.sl i _ e
theorem getSet {α : Type} {l : List α} {i j : Nat} {x y : α} (h : (l.set i x)[j]? = some y) : (j = i ∧ y = x ∧ i < l.length) ∨ (j ≠ i ∧ l[j]? = some y) := by
  by_cases e : j = i
  · subst e
    have hl : j < l.length := by
      have := (List.getElem?_eq_some_iff.mp h).1
      rwa [List.length_set] at this
    rw [List.getElem?_set_self hl] at h
    exact .inl ⟨rfl, (Option.some.inj h).symm, hl⟩
  · rw [List.getElem?_set_ne (fun z => e z.symm)] at h
    exact .inr ⟨e, h⟩
/-- a slot is set to data -/
theorem ST.set (h : ST K B F0 F σ H ρ) (r : Rp K (hide F H) v d) : ST K B F0 F (σ.set i (some v)) H (ρ.set i (.dat d)) := by
  refine ⟨h.hs, by rw [List.length_set, List.length_set]; exact h.len, fun j s q => ?_, fun j k ds es p hjk q1 q2 q3 q4 => ?_⟩
  · rcases getSet q with ⟨e1, e2, hl⟩ | ⟨e1, q⟩
    · subst e1 e2
      exact ⟨v, List.getElem?_set_self (by rw [← h.len]; exact hl), r⟩
    · rw [List.getElem?_set_ne (fun z => e1 z.symm)]
      exact h.sl j s q
  · rcases getSet q1 with ⟨_, e2, _⟩ | ⟨n1, q1⟩
    · cases e2
    rcases getSet q2 with ⟨_, e2, _⟩ | ⟨n2, q2⟩
    · cases e2
    rw [List.getElem?_set_ne (fun z => n1 z.symm)] at q3
    rw [List.getElem?_set_ne (fun z => n2 z.symm)] at q4
    exact h.ap j k ds es p hjk q1 q2 q3 q4
/-- a slot is forgotten -/
theorem ST.forget (h : ST K B F0 F σ H ρ) : ST K B F0 F (σ.set i none) H (ρ.set i .no) := by
  refine ⟨h.hs, by rw [List.length_set, List.length_set]; exact h.len, fun j s q => ?_, fun j k ds es p hjk q1 q2 q3 q4 => ?_⟩
  · rcases getSet q with ⟨e1, e2, hl⟩ | ⟨e1, q⟩
    · subst e1 e2
      trivial
    · rw [List.getElem?_set_ne (fun z => e1 z.symm)]
      exact h.sl j s q
  · rcases getSet q1 with ⟨_, e2, _⟩ | ⟨n1, q1⟩
    · cases e2
    rcases getSet q2 with ⟨_, e2, _⟩ | ⟨n2, q2⟩
    · cases e2
    rw [List.getElem?_set_ne (fun z => n1 z.symm)] at q3
    rw [List.getElem?_set_ne (fun z => n2 z.symm)] at q4
    exact h.ap j k ds es p hjk q1 q2 q3 q4
/-- less is told of a slot -/
theorem ST.drop (h : ST K B F0 F σ H ρ) : ST K B F0 F σ H (ρ.set i .no) := by
  refine ⟨h.hs, by rw [List.length_set]; exact h.len, fun j s q => ?_, fun j k ds es p hjk q1 q2 q3 q4 => ?_⟩
  · rcases getSet q with ⟨e1, e2, hl⟩ | ⟨e1, q⟩
    · subst e2
      trivial
    · exact h.sl j s q
  · rcases getSet q1 with ⟨_, e2, _⟩ | ⟨n1, q1⟩
    · cases e2
    rcases getSet q2 with ⟨_, e2, _⟩ | ⟨n2, q2⟩
    · cases e2
    exact h.ap j k ds es p hjk q1 q2 q3 q4
/-- one more address is hidden, which was new -/
theorem ST.more (h : ST K B F0 F σ H ρ) (hp : H p = none) (e : Ex H H') (hp' : H' p = some o) : ST K B F0 (p :: F) σ H' ρ := by
  refine ⟨h.hs.cons hp e hp', h.len, fun j s q => ?_, h.ap⟩
  have hh : Ex (hide F H) (hide (p :: F) H') := hide_more hp e
  have z := h.sl j s q
  cases s with
  | no => trivial
  | dat d =>
    obtain ⟨v, e1, r⟩ := z
    exact ⟨v, e1, r.mono hh⟩
  | own ds =>
    obtain ⟨a, ys, e1, ha, hb, hx, r⟩ := z
    exact ⟨a, ys, e1, List.mem_cons_of_mem _ ha, hb, e _ _ hx, r.mono hh⟩
/-- a slot is set to a list of one's own, just made -/
theorem ST.setOwn (h : ST K B F0 F σ H ρ) (hp : H p = none) (e : Ex H H') (hp' : H' p = some (.lst xs)) (r : RpAll K (hide (p :: F) H') xs ds) : ST K B F0 (p :: F) (σ.set i (some (.ref p))) H' (ρ.set i (.own ds)) := by
  have h2 := h.more hp e hp'
  have nop : ∀ (j : Nat) (es : List D), ρ[j]? = some (.own es) → σ[j]? ≠ some (some (.ref p)) := fun j es q z => by
    obtain ⟨a, ys, e1, ha, hb, hx, _⟩ := h.own q
    rw [e1] at z
    cases z
    rw [hp] at hx
    cases hx
  refine ⟨h2.hs, by rw [List.length_set, List.length_set]; exact h.len, fun j s q => ?_, fun j k d1 d2 a hjk q1 q2 q3 q4 => ?_⟩
  · rcases getSet q with ⟨e1, e2, hl⟩ | ⟨e1, q⟩
    · subst e1 e2
      exact ⟨p, xs, List.getElem?_set_self (by rw [← h.len]; exact hl), List.mem_cons_self, h.hs.freshB hp, hp', r⟩
    · rw [List.getElem?_set_ne (fun z => e1 z.symm)]
      exact h2.sl j s q
  · rcases getSet q1 with ⟨e1, e2, hl⟩ | ⟨n1, q1'⟩
    · subst e1
      rw [List.getElem?_set_self (by rw [← h.len]; exact hl)] at q3
      cases q3
      rcases getSet q2 with ⟨e3, _, _⟩ | ⟨n2, q2⟩
      · exact hjk e3.symm
      · rw [List.getElem?_set_ne (fun z => n2 z.symm)] at q4
        exact nop k d2 q2 q4
    · rw [List.getElem?_set_ne (fun z => n1 z.symm)] at q3
      rcases getSet q2 with ⟨e3, _, hl⟩ | ⟨n2, q2'⟩
      · have q5 := nop j d1 q1'
        subst e3
        rw [List.getElem?_set_self (by rw [← h.len]; exact hl)] at q4
        cases q4
        exact q5 q3
      · rw [List.getElem?_set_ne (fun z => n2 z.symm)] at q4
        exact h.ap j k d1 d2 a hjk q1' q2' q3 q4
/-- a list of one's own is changed -/
theorem ST.write (h : ST K B F0 F σ H ρ) (hi : ρ[i]? = some (.own ds)) (hs : σ[i]? = some (some (.ref p))) (r : RpAll K (hide F H) xs es) : ST K B F0 F σ (upd H p (.lst xs)) (ρ.set i (.own es)) := by
  obtain ⟨a, ys, e1, ha, hb, hx, _⟩ := h.own hi
  obtain rfl : a = p := by
    rw [e1] at hs
    injection hs with hs
    injection hs with hs
    injection hs with hs
  have hh : Ex (hide F H) (hide F (upd H a (.lst xs))) := hide_in ha
  refine ⟨h.hs.write ha hb, by rw [List.length_set]; exact h.len, fun j s q => ?_, fun j k d1 d2 b hjk q1 q2 q3 q4 => ?_⟩
  · rcases getSet q with ⟨e2, e3, hl⟩ | ⟨e2, q⟩
    · subst e2 e3
      exact ⟨a, xs, e1, ha, hb, upd_same, r.mono hh⟩
    · have z := h.sl j s q
      cases s with
      | no => trivial
      | dat d =>
        obtain ⟨v, e3, r⟩ := z
        exact ⟨v, e3, r.mono hh⟩
      | own ds' =>
        obtain ⟨b, zs, e3, hb1, hb2, hx2, r2⟩ := z
        refine ⟨b, zs, e3, hb1, hb2, ?_, r2.mono hh⟩
        rw [upd_ne (fun z => h.ap i j ds ds' a (fun w => e2 w.symm) hi q e1 (by rw [e3, z]))]
        exact hx2
  · have old : ∀ (m : Nat) (d3 : List D), (ρ.set i (.own es))[m]? = some (.own d3) → ∃ d4, ρ[m]? = some (.own d4) := fun m d3 q => by
      rcases getSet q with ⟨e2, _, _⟩ | ⟨_, q⟩
      · subst e2
        exact ⟨ds, hi⟩
      · exact ⟨d3, q⟩
    obtain ⟨d3, q1⟩ := old j d1 q1
    obtain ⟨d4, q2⟩ := old k d2 q2
    exact h.ap j k d3 d4 b hjk q1 q2 q3 q4
/-- a list of one's own becomes data -/
theorem ST.freeze (h : ST K B F0 F σ H ρ) (hi : ρ[i]? = some (.own ds)) : ∃ F', ST K B F0 F' σ H (ρ.set i (.dat (.list ds))) := by
  obtain ⟨a, ys, e1, ha, hb, hx, r⟩ := h.own hi
  have na : a ∉ F0 := fun z => h.hs.dom0 a z hb
  have hh : Ex (hide F H) (hide (F.filter fun b => decide (b ≠ a)) H) := hide_anti fun b hb => (List.mem_filter.mp hb).1
  refine ⟨F.filter fun b => decide (b ≠ a), ⟨⟨h.hs.ex, fun b q => List.mem_filter.mpr ⟨h.hs.sub b q, ?_⟩, fun b q => h.hs.new b (List.mem_filter.mp q).1, fun b q => h.hs.dom b (List.mem_filter.mp q).1, h.hs.dom0⟩, by rw [List.length_set]; exact h.len, fun j s q => ?_, fun j k d1 d2 b hjk q1 q2 q3 q4 => ?_⟩⟩
  · simp
    rintro rfl
    exact na q
  · rcases getSet q with ⟨e2, e3, hl⟩ | ⟨e2, q⟩
    · subst e2 e3
      exact ⟨.ref a, e1, .list (hide_some (by simp) hx) (r.mono hh)⟩
    · have z := h.sl j s q
      cases s with
      | no => trivial
      | dat d =>
        obtain ⟨v, e3, r⟩ := z
        exact ⟨v, e3, r.mono hh⟩
      | own ds' =>
        obtain ⟨b, zs, e3, hb1, hb2, hx2, r2⟩ := z
        refine ⟨b, zs, e3, List.mem_filter.mpr ⟨hb1, ?_⟩, hb2, hx2, r2.mono hh⟩
        simp
        rintro rfl
        exact h.ap i j ds ds' b (fun w => e2 w.symm) hi q e1 e3
  · rcases getSet q1 with ⟨_, e2, _⟩ | ⟨n1, q1⟩
    · cases e2
    rcases getSet q2 with ⟨_, e2, _⟩ | ⟨n2, q2⟩
    · cases e2
    exact h.ap j k d1 d2 b hjk q1 q2 q3 q4
theorem ST.reb (h : ST K B F0 F σ H ρ) : ST K (DL.reb F0 F H) F0 F σ H ρ := by
  refine ⟨h.hs.reb, h.len, fun j s q => ?_, h.ap⟩
  have z := h.sl j s q
  cases s with
  | no => trivial
  | dat d => exact z
  | own ds =>
    obtain ⟨a, ys, e1, ha, hb, hx, r⟩ := z
    have na : a ∉ F0 := fun z => h.hs.dom0 a z hb
    exact ⟨a, ys, e1, ha, (h.hs.reb.new a ha).resolve_left na, hx, r⟩
theorem ST.unreb (h : ST K B' F0 F σ H ρ) (e : Ex B B') (d0 : ∀ a ∈ F0, B a ≠ none) : ST K B F0 F σ H ρ := by
  refine ⟨h.hs.unreb e d0, h.len, fun j s q => ?_, h.ap⟩
  have z := h.sl j s q
  cases s with
  | no => trivial
  | dat d => exact z
  | own ds =>
    obtain ⟨a, ys, e1, ha, hb, hx, r⟩ := z
    exact ⟨a, ys, e1, ha, fresh_back e hb, hx, r⟩
end
end DL

set_option maxRecDepth 100000
set_option maxHeartbeats 4000000
/-! What readings come to, told by data alone; the same of expressions, tests, statements. -/
namespace DL
open PySem PySem.Spec PyProof.Rows L2 Evl

def EvD (K : PySem.W.Frag) (te : TE) (ρ : List Slot) (d : D) : Prop := ∀ (B : Hp) (F0 F : List Addr) (σ : L2.St) (H : Hp), ST K B F0 F σ H ρ → ∀ Q : VK, (∀ v H2, Ex H H2 → Rp K (hide F H2) v d → Q v H2) → te σ H Q
/-- a new list -/
def EvN (K : PySem.W.Frag) (te : TE) (ρ : List Slot) (ds : List D) : Prop := ∀ (B : Hp) (F0 F : List Addr) (σ : L2.St) (H : Hp), ST K B F0 F σ H ρ → ∀ Q : VK,
  (∀ p xs H2, H p = none → Ex H H2 → H2 p = some (.lst xs) → RpAll K (hide (p :: F) H2) xs ds → Q (.ref p) H2) → te σ H Q
def EvTD (K : PySem.W.Frag) (t : TT) (ρ : List Slot) (b : Bool) : Prop := ∀ (B : Hp) (F0 F : List Addr) (σ : L2.St) (H : Hp), ST K B F0 F σ H ρ → ∀ Q : Bool → Hp → Prop, (∀ H2, Ex H H2 → Q b H2) → t σ H Q
def EvAD (K : PySem.W.Frag) (ta : TA) (ρ : List Slot) (ds : List D) : Prop := ∀ (B : Hp) (F0 F : List Addr) (σ : L2.St) (H : Hp), ST K B F0 F σ H ρ → ∀ Q : List V → Hp → Prop, (∀ vs H2, Ex H H2 → RpAll K (hide F H2) vs ds → Q vs H2) → ta σ H Q
def EvOD (K : PySem.W.Frag) (to : TO) (ρ : List Slot) (o : Option Int) : Prop := ∀ (B : Hp) (F0 F : List Addr) (σ : L2.St) (H : Hp), ST K B F0 F σ H ρ → ∀ Q : Option Int → Hp → Prop, (∀ H2, Ex H H2 → Q o H2) → to σ H Q
/-- of values -/
def RvD (K : PySem.W.Frag) (r : R2) (x y d : D) : Prop := ∀ (F : List Addr) (H : Hp) (u v : V), (∀ a ∈ F, H a ≠ none) → Rp K (hide F H) u x → Rp K (hide F H) v y → ∀ Q : VK, (∀ w H2, Ex H H2 → Rp K (hide F H2) w d → Q w H2) → r u v H Q
def RvN (K : PySem.W.Frag) (r : R2) (x y : D) (ds : List D) : Prop := ∀ (F : List Addr) (H : Hp) (u v : V), (∀ a ∈ F, H a ≠ none) → Rp K (hide F H) u x → Rp K (hide F H) v y → ∀ Q : VK,
  (∀ p xs H2, H p = none → Ex H H2 → H2 p = some (.lst xs) → RpAll K (hide (p :: F) H2) xs ds → Q (.ref p) H2) → r u v H Q
def RcD (K : PySem.W.Frag) (r : List V → Hp → VK → Prop) (ds : List D) (d : D) : Prop := ∀ (F : List Addr) (H : Hp) (vs : List V), (∀ a ∈ F, H a ≠ none) → RpAll K (hide F H) vs ds → ∀ Q : VK, (∀ w H2, Ex H H2 → Rp K (hide F H2) w d → Q w H2) → r vs H Q
def RcN (K : PySem.W.Frag) (r : List V → Hp → VK → Prop) (ds es : List D) : Prop := ∀ (F : List Addr) (H : Hp) (vs : List V), (∀ a ∈ F, H a ≠ none) → RpAll K (hide F H) vs ds → ∀ Q : VK,
  (∀ p xs H2, H p = none → Ex H H2 → H2 p = some (.lst xs) → RpAll K (hide (p :: F) H2) xs es → Q (.ref p) H2) → r vs H Q
theorem rp_new {K : PySem.W.Frag} {H H2 : Hp} {F : List Addr} {p : Addr} {xs : List V} {ds : List D} (dom : ∀ a ∈ F, H a ≠ none) (hp : H p = none) (h : H2 p = some (.lst xs)) (r : RpAll K (hide (p :: F) H2) xs ds) : Rp K (hide F H2) (.ref p) (.list ds) :=
  .list (hide_some (fun z => dom p z hp) h) (r.mono (hide_anti fun a ha => List.mem_cons_of_mem _ ha))
section
variable {K : PySem.W.Frag} {ρ : List Slot} {ta tb te : TE} {x y z d : D} {ds es : List D} {r : R2} {i : Nat} {t u : TT} {b c : Bool}
theorem EvN.toD (h : EvN K te ρ ds) : EvD K te ρ (.list ds) := fun B F0 F σ H S Q q => h B F0 F σ H S Q fun p xs H2 hp e hx r => q _ H2 e (rp_new S.hs.dom hp hx r)
theorem RvN.toD (h : RvN K r x y ds) : RvD K r x y (.list ds) := fun F H u v dom r1 r2 Q q => h F H u v dom r1 r2 Q fun p xs H2 hp e hx r => q _ H2 e (rp_new dom hp hx r)
theorem evd_var (h : ρ[i]? = some (.dat d)) : EvD K (tVar i) ρ d := fun B F0 F σ H S Q q => by
  obtain ⟨v, e, r⟩ := S.dat h
  exact ⟨v, e, q v H (Ex.refl H) r⟩
theorem evd_c {v : V} (h : ∀ H, Rp K H v d) : EvD K (tC v) ρ d := fun B F0 F σ H S Q q => q v H (Ex.refl H) (h _)
theorem evd_op (ha : EvD K ta ρ x) (hb : EvD K tb ρ y) (hr : RvD K r x y d) : EvD K (tOp r ta tb) ρ d := fun B F0 F σ H S Q q =>
  ha B F0 F σ H S _ fun u H1 e1 r1 => hb B F0 F σ H1 (S.mono e1) _ fun v H2 e2 r2 => hr F H2 u v ((S.mono e1).mono e2).hs.dom (r1.mono (hide_mono e2)) r2 _ fun w H3 e3 r3 => q w H3 ((e1.trans e2).trans e3) r3
theorem evn_op (ha : EvD K ta ρ x) (hb : EvD K tb ρ y) (hr : RvN K r x y ds) : EvN K (tOp r ta tb) ρ ds := fun B F0 F σ H S Q q =>
  ha B F0 F σ H S _ fun u H1 e1 r1 => hb B F0 F σ H1 (S.mono e1) _ fun v H2 e2 r2 => hr F H2 u v ((S.mono e1).mono e2).hs.dom (r1.mono (hide_mono e2)) r2 _ fun p xs H3 hp e3 hx r3 => q p xs H3 (fresh_back (e1.trans e2) hp) ((e1.trans e2).trans e3) hx r3
theorem evd_un {f : V → Hp → VK → Prop} (ha : EvD K ta ρ x) (hr : ∀ (F : List Addr) (H : Hp) (u : V), (∀ a ∈ F, H a ≠ none) → Rp K (hide F H) u x → ∀ Q : VK, (∀ w H2, Ex H H2 → Rp K (hide F H2) w d → Q w H2) → f u H Q) : EvD K (tUn f ta) ρ d := fun B F0 F σ H S Q q =>
  ha B F0 F σ H S _ fun u H1 e1 r1 => hr F H1 u (S.mono e1).hs.dom r1 _ fun w H3 e3 r3 => q w H3 (e1.trans e3) r3
theorem evad_nil : EvAD K tNil ρ [] := fun B F0 F σ H S Q q => q [] H (Ex.refl H) .nil
theorem evad_cons {ta' : TA} (ha : EvD K ta ρ x) (hr : EvAD K ta' ρ ds) : EvAD K (tCons ta ta') ρ (x :: ds) := fun B F0 F σ H S Q q =>
  ha B F0 F σ H S _ fun u H1 e1 r1 => hr B F0 F σ H1 (S.mono e1) _ fun vs H2 e2 r2 => q _ H2 (e1.trans e2) (.cons (r1.mono (hide_mono e2)) r2)
theorem evd_tup {ta' : TA} (h : EvAD K ta' ρ ds) (hl : ds.length ≤ 100000 := by decide) : EvD K (tTup ta') ρ (.tup ds) := fun B F0 F σ H S Q q =>
  h B F0 F σ H S _ fun vs H1 e1 r1 => ⟨sz_of (by rw [r1.len]; exact hl), fun p hp => q _ _ (e1.trans (Ex.new hp)) (.tup (hide_some ((S.mono e1).hs.fresh hp) upd_same) (r1.mono (hide_mono (Ex.new hp))))⟩
theorem evn_lst {ta' : TA} (h : EvAD K ta' ρ ds) (hl : ds.length ≤ 100000 := by decide) : EvN K (tLst ta') ρ ds := fun B F0 F σ H S Q q =>
  h B F0 F σ H S _ fun vs H1 e1 r1 => ⟨sz_of (by rw [r1.len]; exact hl), fun p hp => q _ vs _ (fresh_back e1 hp) (e1.trans (Ex.new hp)) upd_same (r1.mono (hide_more hp (Ex.new hp)))⟩
theorem evd_cb {rr : List V → Hp → VK → Prop} {ta' : TA} (h : EvAD K ta' ρ ds) (hr : RcD K rr ds d) : EvD K (tCB rr ta') ρ d := fun B F0 F σ H S Q q =>
  h B F0 F σ H S _ fun vs H1 e1 r1 => hr F H1 vs (S.mono e1).hs.dom r1 _ fun w H2 e2 r2 => q w H2 (e1.trans e2) r2
theorem evn_cb {rr : List V → Hp → VK → Prop} {ta' : TA} (h : EvAD K ta' ρ ds) (hr : RcN K rr ds es) : EvN K (tCB rr ta') ρ es := fun B F0 F σ H S Q q =>
  h B F0 F σ H S _ fun vs H1 e1 r1 => hr F H1 vs (S.mono e1).hs.dom r1 _ fun p xs H2 hp e2 hx r2 => q p xs H2 (fresh_back e1 hp) (e1.trans e2) hx r2
theorem evd_if (h : EvTD K t ρ b) (h1 : b = true → EvD K ta ρ d) (h2 : b = false → EvD K tb ρ d) : EvD K (tIf t ta tb) ρ d := fun B F0 F σ H S Q q => h B F0 F σ H S _ fun H1 e1 => by
  cases b with
  | true =>
    show ta σ H1 Q
    exact h1 rfl B F0 F σ H1 (S.mono e1) Q fun v H2 e2 r => q v H2 (e1.trans e2) r
  | false =>
    show tb σ H1 Q
    exact h2 rfl B F0 F σ H1 (S.mono e1) Q fun v H2 e2 r => q v H2 (e1.trans e2) r
theorem evt_test (h : EvD K te ρ (.bool b)) : EvTD K (tTest te) ρ b := fun B F0 F σ H S Q q => h B F0 F σ H S _ fun v H1 e1 r => ⟨b, r.bool_inv, q H1 e1⟩
theorem evt_B (h : EvD K te ρ (.bool b)) : EvTD K (tB te) ρ b := fun B F0 F σ H S Q q => h B F0 F σ H S _ fun v H1 e1 r => ⟨b, r.bool_inv, q H1 e1⟩
theorem evt_not (h : EvTD K t ρ b) : EvTD K (tNot t) ρ (!b) := fun B F0 F σ H S Q q => h B F0 F σ H S _ fun H1 e1 => q H1 e1
theorem evt_orF (h1 : EvTD K t ρ false) (h2 : EvTD K u ρ b) : EvTD K (tOr t u) ρ b := fun B F0 F σ H S Q q => h1 B F0 F σ H S _ fun H1 e1 => by
  show u σ H1 Q
  exact h2 B F0 F σ H1 (S.mono e1) Q fun H2 e2 => q H2 (e1.trans e2)
theorem evo_none : EvOD K tNoPart ρ none := fun B F0 F σ H S Q q => q H (Ex.refl H)
theorem evo_some {n : Int} (h : EvD K te ρ (.int n)) : EvOD K (tPart te) ρ (some n) := fun B F0 F σ H S Q q => h B F0 F σ H S _ fun v H1 e1 r => ⟨n, r.int_inv, q H1 e1⟩
end

/-! ### targets -/
/-- the value of d assigned: the slots are ρ1 then; js: the slots that may have changed -/
def TgD (K : PySem.W.Frag) (g : TG) (ρ : List Slot) (d : D) (ρ1 : List Slot) (js : List Nat) : Prop := ∀ (B : Hp) (F0 F : List Addr) (σ : L2.St) (H : Hp) (v : V), ST K B F0 F σ H ρ → Rp K (hide F H) v d → ∀ Q : L2.St → Hp → Prop,
  (∀ σ', ST K B F0 F σ' H ρ1 → (σ'.length = σ.length ∧ ∀ k, k ∉ js → σ'[k]? = σ[k]?) → Q σ' H) → g v σ H Q
def TgsD (K : PySem.W.Frag) (g : TGs) (ρ : List Slot) (ds : List D) (ρ1 : List Slot) (js : List Nat) : Prop := ∀ (B : Hp) (F0 F : List Addr) (σ : L2.St) (H : Hp) (vs : List V), ST K B F0 F σ H ρ → RpAll K (hide F H) vs ds → ∀ Q : L2.St → Hp → Prop,
  (∀ σ', ST K B F0 F σ' H ρ1 → (σ'.length = σ.length ∧ ∀ k, k ∉ js → σ'[k]? = σ[k]?) → Q σ' H) → g vs σ H Q
section
variable {K : PySem.W.Frag} {ρ ρ1 ρ2 : List Slot} {d : D} {ds : List D} {i : Nat} {js : List Nat}
theorem tg_name : TgD K (gName i) ρ d (ρ.set i (.dat d)) [i] := fun B F0 F σ H v S r Q q => q _ (S.set r) ⟨List.length_set, fun k hk => by
  rw [List.getElem?_set_ne (fun z => hk (by simp [z]))]⟩
theorem tgs_nil : TgsD K gNil ρ [] ρ [] := fun B F0 F σ H vs S r Q q => by
  cases r
  exact ⟨rfl, q σ S ⟨rfl, fun _ _ => rfl⟩⟩
theorem tgs_cons {g : TGs} (h : TgsD K g (ρ.set i (.dat d)) ds ρ2 js) : TgsD K (gCons (gName i) g) ρ (d :: ds) ρ2 (i :: js) := fun B F0 F σ H vs S r Q q => by
  cases r with
  | cons r1 r2 =>
    refine ⟨_, _, rfl, ?_⟩
    refine h B F0 F _ H _ (S.set r1) r2 Q fun σ' S' w => q σ' S' ⟨by rw [w.1, List.length_set], fun k hk => ?_⟩
    rw [w.2 k (fun z => hk (List.mem_cons_of_mem _ z)), List.getElem?_set_ne (fun z => hk (by simp [z]))]
theorem tg_tup {g : TGs} {n : Nat} (h : TgsD K g ρ ds ρ1 js) (hn : ds.length = n) : TgD K (gTup K n g) ρ (.tup ds) ρ1 js := fun B F0 F σ H v S r Q q => by
  obtain ⟨a, xs, rfl, hx, rs⟩ := r.tup_inv
  exact ⟨a, xs, rfl, .inl (.inl (hide_sub _ _ hx)), by rw [rs.len]; exact hn, h B F0 F σ H xs S rs Q q⟩
end

/-! ### what is walked -/
def JD (K : PySem.W.Frag) (J : It) (G : Hp) (ds : List D) : Prop := ∀ H', Ex G H' → (∀ i, i < ds.length → J.go i H') ∧ J.stop ds.length H' ∧
  ∀ i x H'' d, ds[i]? = some d → J.yld i H' x H'' → (H'' = H' ∧ Rp K G x d) ∨ ∃ T xs es, x = .ref T ∧ H' T = none ∧ H'' = upd H' T (.tup xs) ∧ RpAll K G xs es ∧ d = .tup es
def ItD (K : PySem.W.Frag) (wi : TI) (ρ : List Slot) (ds : List D) : Prop := ∀ (B : Hp) (F0 F : List Addr) (σ : L2.St) (H : Hp), ST K B F0 F σ H ρ → ∀ R : It → Hp → Prop, (∀ J H1, Ex H H1 → JD K J (hide F H1) ds → R J H1) → wi σ H R
theorem JD.yield {K : PySem.W.Frag} {J : It} {G B H' H'' : Hp} {ds : List D} {d : D} {i : Nat} {x : V} {F0 F : List Addr} {σ : L2.St} {ρ : List Slot} (j : JD K J G ds) (S : ST K B F0 F σ H' ρ) (e : Ex G (hide F H')) (hd : ds[i]? = some d) (y : J.yld i H' x H'') :
    Ex H' H'' ∧ ST K B F0 F σ H'' ρ ∧ Rp K (hide F H'') x d := by
  rcases (j H' (e.trans hide_sub)).2.2 i x H'' d hd y with ⟨e1, r⟩ | ⟨T, xs, es, rfl, hT, rfl, r, rfl⟩
  · subst e1
    exact ⟨Ex.refl _, S, r.mono e⟩
  · have en : Ex H' (upd H' T (.tup xs)) := Ex.new hT
    exact ⟨en, S.mono en, .tup (hide_some (S.hs.fresh hT) upd_same) (r.mono (e.trans (hide_mono en)))⟩
section
variable {K : PySem.W.Frag} {ρ : List Slot} {te : TE} {ta : TA} {ds : List D}
theorem it_list (h : EvD K te ρ (.list ds)) : ItD K (iList K te) ρ ds := fun B F0 F σ H S R q => h B F0 F σ H S _ fun v H1 e1 r => by
  obtain ⟨a, xs, rfl, hx, rs⟩ := r.list_inv
  refine ⟨a, rfl, ⟨xs, .inl (.inl (hide_sub _ _ hx))⟩, q _ H1 e1 fun H' e' => ?_⟩
  have sq : SqL K H' a xs := .inl (.inl (e' _ _ hx))
  have w := walk_list (K := K) (a := a) (xs := xs)
  rw [← rs.len]
  refine ⟨fun i hi => w.goes i H' hi sq, w.stops H' sq, fun i x H'' d hd y => .inl ?_⟩
  have hi : i < xs.length := by rw [rs.len]; exact (List.getElem?_eq_some_iff.mp hd).1
  obtain ⟨e1, e2⟩ := w.yields i H' x H'' hi sq y
  obtain ⟨d', e3, r'⟩ := rs.getV e2
  rw [hd] at e3
  cases e3
  exact ⟨e1, r'⟩
theorem it_tup (h : EvD K te ρ (.tup ds)) : ItD K (iTup K te) ρ ds := fun B F0 F σ H S R q => h B F0 F σ H S _ fun v H1 e1 r => by
  obtain ⟨a, xs, rfl, hx, rs⟩ := r.tup_inv
  refine ⟨a, rfl, ⟨xs, .inl (.inl (hide_sub _ _ hx))⟩, q _ H1 e1 fun H' e' => ?_⟩
  have sq : SqT K H' a xs := .inl (.inl (e' _ _ hx))
  have w := walk_tup (K := K) (a := a) (xs := xs)
  rw [← rs.len]
  refine ⟨fun i hi => w.goes i H' hi sq, w.stops H' sq, fun i x H'' d hd y => .inl ?_⟩
  have hi : i < xs.length := by rw [rs.len]; exact (List.getElem?_eq_some_iff.mp hd).1
  obtain ⟨e1, e2⟩ := w.yields i H' x H'' hi sq y
  obtain ⟨d', e3, r'⟩ := rs.getV e2
  rw [hd] at e3
  cases e3
  exact ⟨e1, r'⟩
theorem it_rev (h : EvAD K ta ρ [.list ds]) : ItD K (iRev K ta) ρ ds.reverse := fun B F0 F σ H S R q => h B F0 F σ H S _ fun vs H1 e1 r => by
  cases r with
  | cons r rn =>
    cases rn
    obtain ⟨a, xs, rfl, hx, rs⟩ := r.list_inv
    refine ⟨a, xs, rfl, .inl (.inl (hide_sub _ _ hx)), q _ H1 e1 fun H' e' => ?_⟩
    have sq : SqL K H' a xs := .inl (.inl (e' _ _ hx))
    have w := walk_rev (K := K) (a := a) (xs := xs)
    rw [List.length_reverse, ← rs.len]
    refine ⟨fun i hi => w.goes i H' hi sq, w.stops H' sq, fun i x H'' d hd y => .inl ?_⟩
    have hi : i < xs.length := by rw [rs.len, ← List.length_reverse]; exact (List.getElem?_eq_some_iff.mp hd).1
    obtain ⟨e1, e2⟩ := w.yields i H' x H'' hi sq y
    obtain ⟨d', e3, r'⟩ := rs.getV e2
    rw [List.getElem?_reverse (by rw [← rs.len]; exact hi), ← rs.len, e3] at hd
    cases hd
    exact ⟨e1, r'⟩
theorem it_enum (h : EvAD K ta ρ [.list ds]) : ItD K (iEnum K ta) ρ ((List.range ds.length).map fun (i : Nat) => .tup [.int (i : Int), ds.getD i .non]) := fun B F0 F σ H S R q => h B F0 F σ H S _ fun vs H1 e1 r => by
  cases r with
  | cons r rn =>
    cases rn
    obtain ⟨a, xs, rfl, hx, rs⟩ := r.list_inv
    refine ⟨a, xs, rfl, .inl (.inl (hide_sub _ _ hx)), q _ H1 e1 fun H' e' => ?_⟩
    have sq : SqL K H' a xs := .inl (.inl (e' _ _ hx))
    have w := walk_enum (K := K) (a := a) (xs := xs)
    rw [List.length_map, List.length_range, ← rs.len]
    refine ⟨fun i hi => w.goes i H' hi sq, w.stops H' sq, fun i x H'' d hd y => .inr ?_⟩
    have hi : i < xs.length := by
      have := (List.getElem?_eq_some_iff.mp hd).1
      rw [List.length_map, List.length_range] at this
      exact this
    obtain ⟨T, x1, x2, e2, e3, e4, e5, e6⟩ := w.yields i H' x H'' hi sq y
    cases e5
    obtain ⟨d', e7, r'⟩ := rs.getV e6
    have hi2 : i < ds.length := by rw [← rs.len]; exact hi
    rw [List.getElem?_map, List.getElem?_range hi] at hd
    have hd : D.tup [.int (i : Int), ds.getD i .non] = d := Option.some.inj hd
    refine ⟨T, _, _, e2, e3, e4, .cons (.int _) (.cons r' .nil), ?_⟩
    rw [← hd, List.getD_eq_getElem?_getD, e7]
    rfl
theorem it_rng1 {n : Int} (h : EvAD K ta ρ [.int n]) (hn : n ≤ 100000) (h0 : -100000 ≤ n := by omega) : ItD K (iRng1 ta) ρ ((List.range n.toNat).map fun (i : Nat) => .int (i : Int)) := fun B F0 F σ H S R q => h B F0 F σ H S _ fun vs H1 e1 r => by
  cases r with
  | cons r rn =>
    cases rn
    obtain rfl := r.int_inv
    refine ⟨n, rfl, by omega, by omega, q _ H1 e1 fun H' e' => ?_⟩
    have w := walk_range (lo := 0) (n := n.toNat)
    rw [List.length_map, List.length_range]
    refine ⟨fun i hi => w.goes i H' hi trivial, w.stops H' trivial, fun i x H'' d hd y => .inl ?_⟩
    have hi : i < n.toNat := by
      have := (List.getElem?_eq_some_iff.mp hd).1
      rw [List.length_map, List.length_range] at this
      exact this
    obtain ⟨e1, e2⟩ := w.yields i H' x H'' hi trivial y
    rw [List.getElem?_map, List.getElem?_range hi] at hd
    have hd : D.int (i : Int) = d := Option.some.inj hd
    refine ⟨e1, ?_⟩
    rw [e2, ← hd]
    show Rp K (hide F H1) (.int (0 + (i : Int))) (.int (i : Int))
    rw [Int.zero_add]
    exact .int _
theorem it_rng2 {lo n : Int} (h : EvAD K ta ρ [.int lo, .int n]) (hl : -100000 ≤ lo ∧ lo ≤ 100000) (hn : -100000 ≤ n ∧ n ≤ 100000) : ItD K (iRng2 ta) ρ ((List.range (n - lo).toNat).map fun (i : Nat) => .int (lo + (i : Int))) := fun B F0 F σ H S R q => h B F0 F σ H S _ fun vs H1 e1 r => by
  cases r with
  | cons r rn =>
    cases rn with
    | cons r' rn =>
      cases rn
      obtain rfl := r.int_inv
      obtain rfl := r'.int_inv
      refine ⟨lo, n, rfl, ⟨by omega, by omega, by omega, by omega⟩, q _ H1 e1 fun H' e' => ?_⟩
      have w := walk_range (lo := lo) (n := (n - lo).toNat)
      rw [List.length_map, List.length_range]
      refine ⟨fun i hi => w.goes i H' hi trivial, w.stops H' trivial, fun i x H'' d hd y => .inl ?_⟩
      have hi : i < (n - lo).toNat := by
        have := (List.getElem?_eq_some_iff.mp hd).1
        rw [List.length_map, List.length_range] at this
        exact this
      obtain ⟨e1, e2⟩ := w.yields i H' x H'' hi trivial y
      rw [List.getElem?_map, List.getElem?_range hi] at hd
      have hd : D.int (lo + (i : Int)) = d := Option.some.inj hd
      refine ⟨e1, ?_⟩
      rw [e2, ← hd]
      exact .int _
end

/-! ### statements -/
inductive Oc where
  | nx (ρ : List Slot) | rt (d : D)
def OK (K : PySem.W.Frag) (B : Hp) (F0 : List Addr) (De : Ends) : Oc → Prop
  | .nx ρ => ∀ F σ H, ST K B F0 F σ H ρ → De.nx σ H
  | .rt d => ∀ v H, Ex B H → Rp K (hide F0 H) v d → De.rt v H
def SvD (K : PySem.W.Frag) (t : TS) (ρ : List Slot) (o : Oc) : Prop := ∀ (B : Hp) (F0 F : List Addr) (σ : L2.St) (H : Hp), ST K B F0 F σ H ρ → ∀ De : Ends, OK K B F0 De o → t De σ H
section
variable {K : PySem.W.Frag} {ρ ρ1 ρ2 : List Slot} {te ta tb : TE} {tt : TT} {t u tbd : TS} {g : TG} {d : D} {ds : List D} {i : Nat} {o : Oc} {b : Bool} {js : List Nat}
theorem sv_seq (h1 : SvD K t ρ (.nx ρ1)) (h2 : SvD K u ρ1 o) : SvD K (tSeq t u) ρ o := fun B F0 F σ H S De k => h1 B F0 F σ H S { De with nx := u De } fun F' σ' H' S' => h2 B F0 F' σ' H' S' De k
theorem sv_seqR (h1 : SvD K t ρ (.rt d)) : SvD K (tSeq t u) ρ (.rt d) := fun B F0 F σ H S De k => h1 B F0 F σ H S { De with nx := u De } k
theorem sv_next : SvD K tNext ρ (.nx ρ) := fun B F0 F σ H S De k => k F σ H S
theorem sv_asg (h : EvD K te ρ d) (hg : TgD K g ρ d ρ1 js) : SvD K (tAsg te g) ρ (.nx ρ1) := fun B F0 F σ H S De k => h B F0 F σ H S _ fun v H1 e1 r => hg B F0 F σ H1 v (S.mono e1) r _ fun σ' S' _ => k F σ' H1 S'
theorem sv_asgN (h : EvN K te ρ ds) : SvD K (tAsg te (gName i)) ρ (.nx (ρ.set i (.own ds))) := fun B F0 F σ H S De k => h B F0 F σ H S _ fun p xs H1 hp e1 hx r => k _ _ H1 (S.setOwn hp e1 hx r)
theorem sv_drop (h : EvD K te ρ d) : SvD K (tDrop te) ρ (.nx ρ) := fun B F0 F σ H S De k => h B F0 F σ H S _ fun v H1 e1 r => k F σ H1 (S.mono e1)
theorem sv_ret (h : EvD K te ρ d) : SvD K (tRet te) ρ (.rt d) := fun B F0 F σ H S De k => h B F0 F σ H S _ fun v H1 e1 r => k v H1 (S.mono e1).hs.ex (r.mono (S.mono e1).hs.hide0)
theorem sv_if (h : EvTD K tt ρ b) (h1 : b = true → SvD K t ρ o) (h2 : b = false → SvD K u ρ o) : SvD K (tIfS tt t u) ρ o := fun B F0 F σ H S De k => h B F0 F σ H S _ fun H1 e1 => by
  cases b with
  | true => exact h1 rfl B F0 F σ H1 (S.mono e1) De k
  | false => exact h2 rfl B F0 F σ H1 (S.mono e1) De k
/-- a list of one's own becomes data ahead of t -/
theorem sv_freeze (hi : ρ[i]? = some (.own ds)) (h : SvD K t (ρ.set i (.dat (.list ds))) o) : SvD K t ρ o := fun B F0 F σ H S De k => by
  obtain ⟨F', S'⟩ := S.freeze hi
  exact h B F0 F' σ H S' De k
theorem sv_forget (h : SvD K t (ρ.set i .no) o) : SvD K t ρ o := fun B F0 F σ H S De k => h B F0 F σ H S.drop De k
/-- xs.append(e), xs one's own -/
theorem sv_app (hi : ρ[i]? = some (.own ds)) (h : EvD K te ρ d) (hl : ds.length < 100000) : SvD K (tDrop (tBM K "list" rAppend (tVar i) (tCons te tNil))) ρ (.nx (ρ.set i (.own (ds ++ [d])))) := fun B F0 F σ H S De k => by
  obtain ⟨p, xs, e1, hp, hb, hx, r⟩ := S.own hi
  refine ⟨.ref p, e1, .inl ⟨rfl, xs, sq_of hx⟩, ?_⟩
  refine h B F0 F σ H S _ fun v H1 e2 r1 => ?_
  refine ⟨p, xs, v, rfl, rfl, e2 _ _ hx, sz_lt (by rw [r.len]; exact hl), ?_⟩
  exact k F σ _ ((S.mono e2).write hi e1 ((r.mono (hide_mono e2)).snoc r1))
/-- xs.extend(ys), xs one's own -/
theorem sv_ext {es : List D} (hi : ρ[i]? = some (.own ds)) (h : EvD K te ρ (.list es)) (hl : ds.length + es.length ≤ 100000) : SvD K (tDrop (tBM K "list" rExtend (tVar i) (tCons te tNil))) ρ (.nx (ρ.set i (.own (ds ++ es)))) := fun B F0 F σ H S De k => by
  obtain ⟨p, xs, e1, hp, hb, hx, r⟩ := S.own hi
  refine ⟨.ref p, e1, .inl ⟨rfl, xs, sq_of hx⟩, ?_⟩
  refine h B F0 F σ H S _ fun v H1 e2 r1 => ?_
  obtain ⟨a, ys, rfl, hy, rs⟩ := r1.list_inv
  refine ⟨p, a, xs, ys, rfl, rfl, e2 _ _ hx, hide_sub _ _ hy, sz_of (by rw [r.len, rs.len]; exact hl), ?_⟩
  exact k F σ _ ((S.mono e2).write hi e1 ((r.mono (hide_mono e2)).app rs))
/-- xs[j] = e, xs one's own -/
theorem sv_setL {j : Nat} {ti : TE} {n : Int} (hi : ρ[i]? = some (.own ds)) (h : EvD K te ρ d) (hj : EvD K ti ρ (.int n)) (en : n = (j : Int)) (hl : j < ds.length) : SvD K (tAsg te (gSub (tVar i) ti rSetL)) ρ (.nx (ρ.set i (.own (ds.set j d)))) := fun B F0 F σ H S De k => by
  obtain ⟨p, xs, e1, hp, hb, hx, r⟩ := S.own hi
  refine h B F0 F σ H S _ fun v H1 e2 r1 => ?_
  refine ⟨.ref p, e1, ?_⟩
  refine hj B F0 F σ H1 (S.mono e2) _ fun w H2 e3 r2 => ?_
  obtain rfl := r2.int_inv
  subst en
  refine ⟨p, xs, (j : Int), j, rfl, rfl, e3 _ _ (e2 _ _ hx), ixN_nat (by rw [r.len]; exact hl), ?_⟩
  exact k F σ _ (((S.mono e2).mono e3).write hi e1 (RpAll.set (r1.mono (hide_mono e3)) j (r.mono (hide_mono (e2.trans e3)))))
/-- an item of a list of one's own -/
theorem evd_ixOwn {n : Int} (hi : ρ[i]? = some (.own ds)) (hb : EvD K tb ρ (.int n)) (ha : atI ds n = some d) : EvD K (tOp (rIxL K) (tVar i) tb) ρ d := fun B F0 F σ H S Q q => by
  obtain ⟨p, xs, e1, hp, hb', hx, r⟩ := S.own hi
  refine ⟨.ref p, e1, ?_⟩
  refine hb B F0 F σ H S _ fun v H1 e2 r1 => ?_
  obtain rfl := r1.int_inv
  obtain ⟨v, e3, r3⟩ : ∃ v, atI xs n = some v ∧ Rp K (hide F H) v d := by
    unfold atI at ha ⊢
    rw [r.len]
    cases hn : ixN ds.length n with
    | none => rw [hn] at ha; cases ha
    | some j =>
      rw [hn] at ha
      exact r.get ha
  exact ⟨p, xs, n, v, rfl, rfl, sq_of (e2 _ _ hx), e3, q v H1 e2 (r3.mono (hide_mono e2))⟩

/-- while: n turns -/
theorem sv_while (P : Nat → List Slot) (n : Nat) (h0 : P 0 = ρ) (hs : ∀ i, i < n → EvTD K tt (P i) true ∧ SvD K tbd (P i) (.nx (P (i + 1)))) (hd : EvTD K tt (P n) false) : SvD K (tWhile tt tbd) ρ (.nx (P n)) := fun B F0 F σ H S De k => by
  refine ⟨fun m σ' H' => ∃ i F', m = n - i ∧ i ≤ n ∧ ST K B F0 F' σ' H' (P i), ⟨n, 0, F, by simp, Nat.zero_le _, by rw [h0]; exact S⟩, ?_⟩
  rintro m σ' H' ⟨i, F', rfl, hi, S'⟩
  by_cases hlt : i < n
  · obtain ⟨a, b⟩ := hs i hlt
    refine a B F0 F' σ' H' S' _ fun H1 e1 => ?_
    refine ⟨fun σ2 H2 => ∃ F2, ST K B F0 F2 σ2 H2 (P (i + 1)), fun σ2 H2 ⟨F2, S2⟩ => ⟨n - (i + 1), by omega, i + 1, F2, rfl, hlt, S2⟩, ?_⟩
    exact b B F0 F' σ' H1 (S'.mono e1) _ fun F2 σ2 H2 S2 => ⟨F2, S2⟩
  · have e : i = n := by omega
    subst e
    refine hd B F0 F' σ' H' S' _ fun H1 e1 => ?_
    exact k F' σ' H1 (S'.mono e1)

/-- for, whatever it walks: P by what was taken; G: it goes on so far -/
theorem sv_forG {α : Type} {wi : TI} (as : List α) (enc : α → D) (G : List α → Prop) (P : List α → List Slot) (hi : ItD K wi ρ (as.map enc)) (h0 : P [] = ρ) (g0 : G [])
    (hs : ∀ pre a post, as = pre ++ a :: post → G pre → ∃ ρ1 js, TgD K g (P pre) (enc a) ρ1 js ∧ ((SvD K tbd ρ1 (.nx (P (pre ++ [a]))) ∧ G (pre ++ [a])) ∨ ((∃ d, o = .rt d) ∧ SvD K tbd ρ1 o)))
    (hd : G as → o = .nx (P as)) : SvD K (tFor wi g tbd) ρ o := fun B F0 F σ H S De k => by
  refine hi B F0 F σ H S _ fun J H1 e1 jd => ?_
  have S1 := S.mono e1
  have Sb := S1.reb
  have eB : Ex B (DL.reb F0 F H1) := S1.hs.rebEx
  have eG : Ex (hide F H1) (hide F0 (DL.reb F0 F H1)) := S1.hs.rebSeen
  refine ⟨fun i m σ' H' => m = as.length - i ∧ i ≤ as.length ∧ G (as.take i) ∧ ∃ F', ST K (DL.reb F0 F H1) F0 F' σ' H' (P (as.take i)), ⟨as.length, by simp, Nat.zero_le _, by simpa using g0, F, by rw [List.take_zero, h0]; exact Sb⟩, ?_⟩
  rintro i m σ' H' ⟨rfl, hi', gi, F', S'⟩
  have eH : Ex (hide F H1) (hide F' H') := eG.trans S'.hs.seen
  obtain ⟨go, stop, _⟩ := jd H' (eH.trans hide_sub)
  rw [List.length_map] at go stop
  by_cases hlt : i < as.length
  · refine .inr ⟨go i hlt, fun σ2 H2 => G (as.take (i + 1)) ∧ ∃ F2, ST K (DL.reb F0 F H1) F0 F2 σ2 H2 (P (as.take (i + 1))), fun σ2 H2 ⟨g2, F2, S2⟩ => ⟨as.length - (i + 1), by omega, rfl, hlt, g2, F2, S2⟩, fun x H'' y => ?_⟩
    have ea : as = as.take i ++ as[i] :: as.drop (i + 1) := by
      rw [← List.drop_eq_getElem_cons hlt, List.take_append_drop]
    have et : as.take (i + 1) = as.take i ++ [as[i]] := List.take_succ_eq_append_getElem hlt
    have hd' : (as.map enc)[i]? = some (enc as[i]) := by rw [List.getElem?_map, List.getElem?_eq_getElem hlt]; rfl
    obtain ⟨e2, S2, r2⟩ := jd.yield S' eH hd' y
    obtain ⟨ρ1, js, tg, hb⟩ := hs _ _ _ ea gi
    refine tg _ F0 F' σ' H'' x S2 r2 _ fun σ3 S3 _ => ?_
    rcases hb with ⟨hb, gn⟩ | ⟨⟨d, ed⟩, hb⟩
    · rw [← et] at hb gn
      exact hb _ F0 F' σ3 H'' S3 _ fun F4 σ4 H4 S4 => ⟨gn, F4, S4⟩
    · subst ed
      exact hb _ F0 F' σ3 H'' S3 _ fun v H4 e4 r4 => k v H4 (eB.trans e4) r4
  · have e : i = as.length := by omega
    subst e
    refine .inl ⟨stop, ?_⟩
    rw [List.take_length] at gi S'
    have k' := k
    rw [hd gi] at k'
    exact k' F' σ' H' (S'.unreb eB S.hs.dom0)
/-- for, to its end -/
theorem sv_for {α : Type} {wi : TI} (as : List α) (enc : α → D) (P : List α → List Slot) (hi : ItD K wi ρ (as.map enc)) (h0 : P [] = ρ)
    (hs : ∀ pre a post, as = pre ++ a :: post → ∃ ρ1 js, TgD K g (P pre) (enc a) ρ1 js ∧ SvD K tbd ρ1 (.nx (P (pre ++ [a])))) : SvD K (tFor wi g tbd) ρ (.nx (P as)) :=
  sv_forG as enc (fun _ => True) P hi h0 trivial (fun pre a post e _ => by
    obtain ⟨ρ1, js, h1, h2⟩ := hs pre a post e
    exact ⟨ρ1, js, h1, .inl ⟨h2, trivial⟩⟩) fun _ => rfl
/-- for, left at a by a return -/
theorem sv_forR {α : Type} {wi : TI} (pre0 : List α) (a0 : α) (post0 : List α) (enc : α → D) (P : List α → List Slot) (hi : ItD K wi ρ ((pre0 ++ a0 :: post0).map enc)) (h0 : P [] = ρ)
    (hs : ∀ pre a post, pre0 = pre ++ a :: post → ∃ ρ1 js, TgD K g (P pre) (enc a) ρ1 js ∧ SvD K tbd ρ1 (.nx (P (pre ++ [a]))))
    (hr : ∃ ρ1 js, TgD K g (P pre0) (enc a0) ρ1 js ∧ SvD K tbd ρ1 (.rt d)) : SvD K (tFor wi g tbd) ρ (.rt d) :=
  sv_forG (pre0 ++ a0 :: post0) enc (fun pre => pre.length ≤ pre0.length) P hi h0 (Nat.zero_le _) (fun pre a post e hl => by
    by_cases hlt : pre.length < pre0.length
    · have e1 : pre = pre0.take pre.length := by
        have := congrArg (List.take pre.length) e
        rw [List.take_append_of_le_length (Nat.le_of_lt hlt), List.take_append_of_le_length (Nat.le_refl _), List.take_length] at this
        exact this.symm
      have e2 : pre0[pre.length] = a := by
        have h1 : (pre0 ++ a0 :: post0)[pre.length]? = some pre0[pre.length] := by rw [List.getElem?_append_left hlt, List.getElem?_eq_getElem hlt]
        have h2 : (pre ++ a :: post)[pre.length]? = some a := by rw [List.getElem?_append_right (Nat.le_refl _)]; simp
        rw [e, h2] at h1
        exact (Option.some.inj h1).symm
      have e3 : pre0 = pre ++ a :: pre0.drop (pre.length + 1) := by
        conv => lhs; rw [← List.take_append_drop pre.length pre0, List.drop_eq_getElem_cons hlt, e2, ← e1]
      obtain ⟨ρ1, js, h1, h2⟩ := hs pre a _ e3
      exact ⟨ρ1, js, h1, .inl ⟨h2, by rw [List.length_append]; exact hlt⟩⟩
    · have el : pre.length = pre0.length := by omega
      obtain ⟨e1, e2⟩ := List.append_inj e el.symm
      injection e2 with e2 _
      obtain ⟨ρ1, js, h1, h2⟩ := hr
      subst e1 e2
      exact ⟨ρ1, js, h1, .inr ⟨⟨d, rfl⟩, h2⟩⟩) fun hl => by
    rw [List.length_append, List.length_cons] at hl
    omega
end
end DL

set_option maxRecDepth 100000
set_option maxHeartbeats 4000000
/-! The judgements of expressions, tests, arguments, walks, statements: what they come to, told by data alone. -/
namespace DL
open PySem PySem.Spec PyProof.Rows L2 Evl
section
variable (X : Cx)
def wE (e : Expr) : TE := fun σ H Q => ∀ (pins : List (Addr × Obj)) (s : Shared), Inv X pins σ H s → wpAny (model X.prog X.w) X.A (eval e X.env) (EP X pins σ Q) X.xe s
def wT (e : Expr) : TT := fun σ H Q => ∀ (pins : List (Addr × Obj)) (s : Shared), Inv X pins σ H s → wpAny (model X.prog X.w) X.A (isTrue e X.env (eval e X.env)) (TP X pins σ Q) X.xe s
def wW (e : Expr) : TT := fun σ H Q => ∀ (whole : Sem Value) (pins : List (Addr × Obj)) (s : Shared), Inv X pins σ H s → wpAny (model X.prog X.w) X.A (isTrue e X.env whole) (TP X pins σ Q) X.xe s
def wA (es : List Expr) : TA := fun σ H Q => ∀ (pos : Pos) (pins : List (Addr × Obj)) (s : Shared), Inv X pins σ H s → wpAny (model X.prog X.w) X.A (spliced (backTo pos (starEach es X.env))) (AP X pins σ Q) X.xe s
def wO (e : Option Expr) : TO := fun σ H Q => ∀ (pins : List (Addr × Obj)) (s : Shared), Inv X pins σ H s → wpAny (model X.prog X.w) X.A (evalPart e X.env) (fun u s' => ∃ o H', Inv X pins σ H' s' ∧ IsPart u o ∧ Q o H') X.xe s
def wS (st : Stmt) : TS := fun De σ H => ∀ (pins : List (Addr × Obj)) (s : Shared), Inv X pins σ H s → wpAny (model X.prog X.w) X.A (exec st X.env) (SP X pins De) X.xe s
def wSs (st : List Stmt) : TS := fun De σ H => ∀ (pins : List (Addr × Obj)) (s : Shared), Inv X pins σ H s → wpAny (model X.prog X.w) X.A (execs st X.env) (SP X pins De) X.xe s
def wI (tg iter : Expr) : TI := fun σ H R => ∀ (pins : List (Addr × Obj)) (s : Shared), Inv X pins σ H s →
  wpAny (model X.prog X.w) X.A (eval iter X.env) (fun v s1 => wpAny (model X.prog X.w) X.A (pyIter v) (PIE X pins σ tg R) X.xe s1) X.xe s
def wTs (ifs : List Expr) : TT := fun σ H Q => ∀ (pins : List (Addr × Obj)) (s : Shared), Inv X pins σ H s →
  wpAny (model X.prog X.w) X.A (forIn ifs true fun c r => if r = true then do let ok ← isTrue c X.env (eval c X.env); pure (ForInStep.yield ok) else pure (ForInStep.yield r)) (TP X pins σ Q) X.xe s
end
section
variable {X : Cx}
theorem pe_w {e : Expr} : PE X e (wE X e) := ⟨fun pins s σ H Q I h => h pins s I⟩
theorem pt_w {e : Expr} : PT X e (wT X e) := ⟨fun pins s σ H Q I h => h pins s I⟩
theorem pw_w {e : Expr} : PW X e (wW X e) := ⟨fun whole pins s σ H Q I h => h whole pins s I⟩
theorem pa_w {es : List Expr} : PA X es (wA X es) := ⟨fun pos pins s σ H Q I h => h pos pins s I⟩
theorem po_w {e : Option Expr} : PO X e (wO X e) := ⟨fun pins s σ H Q I h => h pins s I⟩
theorem ps_w {st : Stmt} : PS X st (wS X st) := ⟨fun pins s σ H D I h => h pins s I⟩
theorem pss_w {st : List Stmt} : PSs X st (wSs X st) := ⟨fun pins s σ H D I h => h pins s I⟩
theorem pi_w {tg iter : Expr} : PI X tg iter (wI X tg iter) := ⟨fun pins s σ H R I h => h pins s I⟩
theorem pts_w {ifs : List Expr} : PTs X ifs (wTs X ifs) := ⟨fun pins s σ H Q I h => h pins s I⟩
structure EE (X : Cx) (e : Expr) (ρ : List Slot) (d : D) : Prop where
  ev : EvD X.K (wE X e) ρ d
structure EN (X : Cx) (e : Expr) (ρ : List Slot) (ds : List D) : Prop where
  ev : EvN X.K (wE X e) ρ ds
structure ET (X : Cx) (e : Expr) (ρ : List Slot) (b : Bool) : Prop where
  ev : EvTD X.K (wT X e) ρ b
structure EW (X : Cx) (e : Expr) (ρ : List Slot) (b : Bool) : Prop where
  ev : EvTD X.K (wW X e) ρ b
structure ETs (X : Cx) (ifs : List Expr) (ρ : List Slot) (b : Bool) : Prop where
  ev : EvTD X.K (wTs X ifs) ρ b
structure EA (X : Cx) (es : List Expr) (ρ : List Slot) (ds : List D) : Prop where
  ev : EvAD X.K (wA X es) ρ ds
structure EO (X : Cx) (e : Option Expr) (ρ : List Slot) (o : Option Int) : Prop where
  ev : EvOD X.K (wO X e) ρ o
structure SD (X : Cx) (st : Stmt) (ρ : List Slot) (o : Oc) : Prop where
  ev : SvD X.K (wS X st) ρ o
structure SDs (X : Cx) (st : List Stmt) (ρ : List Slot) (o : Oc) : Prop where
  ev : SvD X.K (wSs X st) ρ o
structure IE (X : Cx) (tg iter : Expr) (ρ : List Slot) (ds : List D) : Prop where
  ev : ItD X.K (wI X tg iter) ρ ds
theorem EE.of {e : Expr} {t : TE} {ρ : List Slot} {d : D} (h : PE X e t) (q : EvD X.K t ρ d) : EE X e ρ d := ⟨fun B F0 F σ H S Q k pins s I => h.run pins s σ H Q I (q B F0 F σ H S Q k)⟩
theorem EN.of {e : Expr} {t : TE} {ρ : List Slot} {ds : List D} (h : PE X e t) (q : EvN X.K t ρ ds) : EN X e ρ ds := ⟨fun B F0 F σ H S Q k pins s I => h.run pins s σ H Q I (q B F0 F σ H S Q k)⟩
theorem ET.of {e : Expr} {t : TT} {ρ : List Slot} {b : Bool} (h : PT X e t) (q : EvTD X.K t ρ b) : ET X e ρ b := ⟨fun B F0 F σ H S Q k pins s I => h.run pins s σ H Q I (q B F0 F σ H S Q k)⟩
theorem EW.of {e : Expr} {t : TT} {ρ : List Slot} {b : Bool} (h : PW X e t) (q : EvTD X.K t ρ b) : EW X e ρ b := ⟨fun B F0 F σ H S Q k whole pins s I => h.run whole pins s σ H Q I (q B F0 F σ H S Q k)⟩
theorem ETs.of {ifs : List Expr} {t : TT} {ρ : List Slot} {b : Bool} (h : PTs X ifs t) (q : EvTD X.K t ρ b) : ETs X ifs ρ b := ⟨fun B F0 F σ H S Q k pins s I => h.run pins s σ H Q I (q B F0 F σ H S Q k)⟩
theorem EA.of {es : List Expr} {t : TA} {ρ : List Slot} {ds : List D} (h : PA X es t) (q : EvAD X.K t ρ ds) : EA X es ρ ds := ⟨fun B F0 F σ H S Q k pos pins s I => h.run pos pins s σ H Q I (q B F0 F σ H S Q k)⟩
theorem EO.of {e : Option Expr} {t : TO} {ρ : List Slot} {o : Option Int} (h : PO X e t) (q : EvOD X.K t ρ o) : EO X e ρ o := ⟨fun B F0 F σ H S Q k pins s I => h.run pins s σ H Q I (q B F0 F σ H S Q k)⟩
theorem SD.of {st : Stmt} {t : TS} {ρ : List Slot} {o : Oc} (h : PS X st t) (q : SvD X.K t ρ o) : SD X st ρ o := ⟨fun B F0 F σ H S De k pins s I => h.run pins s σ H De I (q B F0 F σ H S De k)⟩
theorem SDs.of {st : List Stmt} {t : TS} {ρ : List Slot} {o : Oc} (h : PSs X st t) (q : SvD X.K t ρ o) : SDs X st ρ o := ⟨fun B F0 F σ H S De k pins s I => h.run pins s σ H De I (q B F0 F σ H S De k)⟩
theorem IE.of {tg iter : Expr} {t : TI} {ρ : List Slot} {ds : List D} (h : PI X tg iter t) (q : ItD X.K t ρ ds) : IE X tg iter ρ ds := ⟨fun B F0 F σ H S R k pins s I => h.run pins s σ H R I (q B F0 F σ H S R k)⟩
theorem EN.ee {e : Expr} {ρ : List Slot} {ds : List D} (h : EN X e ρ ds) : EE X e ρ (.list ds) := ⟨EvN.toD h.ev⟩

/-! ### values by their operations -/
section
variable {K : PySem.W.Frag} {i j : Int} {a b : Str} {ds es : List D} {d : D}
theorem rv_int {g : Int → Int → Int} : RvD K (rI0 fun i j => .int (g i j)) (.int i) (.int j) (.int (g i j)) := fun F H u v dom r1 r2 Q q => ⟨i, j, r1.int_inv, r2.int_inv, q _ H (Ex.refl H) (.int _)⟩
theorem rv_intC {C : Int → Int → Prop} {g : Int → Int → Int} (h : C i j) : RvD K (rI C fun i j => .int (g i j)) (.int i) (.int j) (.int (g i j)) := fun F H u v dom r1 r2 Q q => ⟨i, j, r1.int_inv, r2.int_inv, h, q _ H (Ex.refl H) (.int _)⟩
theorem rv_cmp {g : Int → Int → Bool} : RvD K (rI0 fun i j => .bl (g i j)) (.int i) (.int j) (.bool (g i j)) := fun F H u v dom r1 r2 Q q => ⟨i, j, r1.int_inv, r2.int_inv, q _ H (Ex.refl H) (.bool _)⟩
theorem decV_int : decide (V.int i = V.int j) = decide (i = j) := by by_cases h : i = j <;> simp [h]
theorem decV_str : decide (V.str a = V.str b) = decide (a = b) := by by_cases h : a = b <;> simp [h]
theorem rv_eqI : RvD K rEq (.int i) (.int j) (.bool (decide (i = j))) := fun F H u v dom r1 r2 Q q => by
  rw [r1.int_inv, r2.int_inv]
  exact ⟨rfl, q _ H (Ex.refl H) (by rw [decV_int]; exact .bool _)⟩
theorem rv_eqS : RvD K rEq (.str a) (.str b) (.bool (decide (a = b))) := fun F H u v dom r1 r2 Q q => by
  rw [r1.str_inv, r2.str_inv]
  exact ⟨rfl, q _ H (Ex.refl H) (by rw [decV_str]; exact .bool _)⟩
def D.isNon : D → Bool
  | .non => true
  | _ => false
theorem isNon_of {H : Hp} {v : V} (r : Rp K H v d) : decide (v = .non) = d.isNon := by
  cases r <;> first | rfl | exact decide_eq_false (fun z => nomatch z)
theorem rv_isN : RvD K (fun x y H Q => y = .non ∧ Q (.bl (decide (x = .non))) H) d .non (.bool d.isNon) := fun F H u v dom r1 r2 Q q => ⟨r2.non_inv, q _ H (Ex.refl H) (by rw [isNon_of r1]; exact .bool _)⟩
theorem rv_notN : RvD K (fun x y H Q => y = .non ∧ Q (.bl (!decide (x = .non))) H) d .non (.bool (!d.isNon)) := fun F H u v dom r1 r2 Q q => ⟨r2.non_inv, q _ H (Ex.refl H) (by rw [isNon_of r1]; exact .bool _)⟩
theorem rv_adds (h : a.length + b.length ≤ 100000) : RvD K (fun x y H Q => ∃ i j, x = .str i ∧ y = .str j ∧ i.length + j.length ≤ sizeLine ∧ Q (.str (i ++ j)) H) (.str a) (.str b) (.str (a ++ b)) := fun F H u v dom r1 r2 Q q =>
  ⟨a, b, r1.str_inv, r2.str_inv, sz_of h, q _ H (Ex.refl H) (.str _)⟩
theorem rn_cat (h : ds.length + es.length ≤ 100000) : RvN K rCat (.list ds) (.list es) (ds ++ es) := fun F H u v dom r1 r2 Q q => by
  obtain ⟨p, xs, rfl, hx, rx⟩ := r1.list_inv
  obtain ⟨p', ys, rfl, hy, ry⟩ := r2.list_inv
  exact ⟨p, p', xs, ys, rfl, rfl, hide_sub _ _ hx, hide_sub _ _ hy, sz_of (by rw [rx.len, ry.len]; exact h), fun p hp => q p _ _ hp (Ex.new hp) upd_same ((rx.app ry).mono (hide_more hp (Ex.new hp)))⟩
theorem rep_flat {α : Type} (x : α) : ∀ n : Nat, (List.replicate n [x]).flatten = List.replicate n x
  | 0 => rfl
  | n + 1 => by rw [List.replicate_succ, List.flatten_cons, rep_flat x n]; rfl
theorem rn_rep {n : Int} (h0 : 0 ≤ n) (h : n ≤ 100000) : RvN K rRep (.list [d]) (.int n) (List.replicate n.toNat d) := fun F H u v dom r1 r2 Q q => by
  obtain ⟨p, xs, rfl, hx, rx⟩ := r1.list_inv
  cases rx with
  | cons r rn =>
    cases rn
    refine ⟨p, n, _, rfl, r2.int_inv, hide_sub _ _ hx, by omega, by omega, sz_of (by simp; omega), fun p hp => q p _ _ hp (Ex.new hp) upd_same ?_⟩
    rw [rep_flat]
    exact RpAll.rep (r.mono (hide_more hp (Ex.new hp))) _
theorem atI_rp {H : Hp} {vs : List V} {n : Int} (r : RpAll K H vs ds) (h : atI ds n = some d) : ∃ v, atI vs n = some v ∧ Rp K H v d := by
  unfold atI at h ⊢
  rw [r.len]
  cases hn : ixN ds.length n with
  | none => rw [hn] at h; cases h
  | some j =>
    rw [hn] at h
    exact r.get h
theorem rv_ixL {n : Int} (h : atI ds n = some d) : RvD K (rIxL K) (.list ds) (.int n) d := fun F H u v dom r1 r2 Q q => by
  obtain ⟨p, xs, rfl, hx, rx⟩ := r1.list_inv
  obtain ⟨w, e, r⟩ := atI_rp rx h
  exact ⟨p, xs, n, w, rfl, r2.int_inv, .inl (.inl (hide_sub _ _ hx)), e, q w H (Ex.refl H) r⟩
theorem rv_ixT {n : Int} (h : atI ds n = some d) : RvD K (rIxT K) (.tup ds) (.int n) d := fun F H u v dom r1 r2 Q q => by
  obtain ⟨p, xs, rfl, hx, rx⟩ := r1.tup_inv
  obtain ⟨w, e, r⟩ := atI_rp rx h
  exact ⟨p, xs, n, w, rfl, r2.int_inv, .inl (.inl (hide_sub _ _ hx)), e, q w H (Ex.refl H) r⟩
theorem rv_ixC {ns : List Int} {n m : Int} (h : atI ns n = some m) : RvD K (rIxL K) (.scr ns) (.int n) (.int m) := fun F H u v dom r1 r2 Q q => by
  obtain ⟨p, rfl, hx⟩ := r1.scr_inv
  refine ⟨p, _, n, .int m, rfl, r2.int_inv, ex_l hide_sub hx, ?_, q _ H (Ex.refl H) (.int _)⟩
  unfold atI at h ⊢
  rw [List.length_map]
  cases hn : ixN ns.length n with
  | none => rw [hn] at h; cases h
  | some j =>
    rw [hn] at h
    have h : ns[j]? = some m := h
    show (ns.map V.int)[j]? = some (.int m)
    rw [List.getElem?_map, h]
    rfl
theorem rv_ixS {n : Int} {c : Nat} (hl : a.length ≤ 100000) (h : atI a.cps.toList n = some c) : RvD K rIxS (.str a) (.int n) (.str ⟨#[c]⟩) := fun F H u v dom r1 r2 Q q =>
  ⟨a, n, c, r1.str_inv, r2.int_inv, sz_of hl, h, q _ H (Ex.refl H) (.str _)⟩
theorem inV_str (ss : List Str) : inV (.str a) (ss.map V.str) = decide (a ∈ ss) := by
  unfold inV
  rw [List.any_map]
  have e : ((fun y => eqV y (V.str a)) ∘ V.str) = fun s => decide (s = a) := by
    funext s
    show (s == a) = decide (s = a)
    by_cases h : s = a <;> simp [h]
  rw [e, Bool.eq_iff_iff]
  simp
theorem flat_strs (ss : List Str) : (ss.map V.str).all flatV = true := by
  rw [List.all_map]
  simp [flatV, Function.comp_def]
theorem rv_in {ss : List Str} : RvD K (rIn K false) (.str a) (.list (ss.map D.str)) (.bool (decide (a ∈ ss))) := fun F H u v dom r1 r2 Q q => by
  obtain ⟨p, xs, rfl, hx, rx⟩ := r2.list_inv
  obtain rfl := rx.strs
  obtain rfl := r1.str_inv
  refine ⟨p, _, rfl, .inl (.inl (.inl (hide_sub _ _ hx))), rfl, flat_strs _, q _ H (Ex.refl H) ?_⟩
  show Rp K _ (.bl (inV _ _)) _
  rw [inV_str]
  exact .bool _
theorem rv_notIn {ss : List Str} : RvD K (rIn K true) (.str a) (.list (ss.map D.str)) (.bool (!decide (a ∈ ss))) := fun F H u v dom r1 r2 Q q => by
  obtain ⟨p, xs, rfl, hx, rx⟩ := r2.list_inv
  obtain rfl := rx.strs
  obtain rfl := r1.str_inv
  refine ⟨p, _, rfl, .inl (.inl (.inl (hide_sub _ _ hx))), rfl, flat_strs _, q _ H (Ex.refl H) ?_⟩
  show Rp K _ (.bl (!inV _ _)) _
  rw [inV_str]
  exact .bool _

/-! ### == of plain data -/
mutual
def D.py : D → PyData
  | .non => .none
  | .bool b => .bool b
  | .int i => .int i
  | .str s => .str s
  | .list ds => .list (D.pys ds)
  | .tup ds => .tuple (D.pys ds)
  | .scr _ => .none
  | .dic _ => .none
  | .ins _ _ => .none
def D.pys : List D → List PyData
  | [] => []
  | d :: ds => d.py :: D.pys ds
end
/-- data of flat ones, lists and tuples, at most n deep -/
inductive Pl : Nat → D → Prop
  | non (n : Nat) : Pl n .non
  | bool (n : Nat) (b : Bool) : Pl n (.bool b)
  | int (n : Nat) (i : Int) : Pl n (.int i)
  | str (n : Nat) {s : Str} (h : PyData.strOk s = true) : Pl n (.str s)
  | list {n : Nat} {ds : List D} : (∀ d ∈ ds, Pl n d) → Pl (n + 1) (.list ds)
  | tup {n : Nat} {ds : List D} : (∀ d ∈ ds, Pl n d) → Pl (n + 1) (.tup ds)
theorem Pl.mono {n m : Nat} {d : D} (h : Pl n d) : n ≤ m → Pl m d := by
  induction h generalizing m with
  | non n => exact fun _ => .non m
  | bool n b => exact fun _ => .bool m b
  | int n i => exact fun _ => .int m i
  | str n h => exact fun _ => .str m h
  | list _ ih =>
    intro hm
    obtain ⟨k, rfl⟩ : ∃ k, m = k + 1 := ⟨m - 1, by omega⟩
    exact .list fun d hd => ih d hd (by omega)
  | tup _ ih =>
    intro hm
    obtain ⟨k, rfl⟩ : ∃ k, m = k + 1 := ⟨m - 1, by omega⟩
    exact .tup fun d hd => ih d hd (by omega)
theorem Pl.dp {H : Hp} {n : Nat} {d : D} (h : Pl n d) : ∀ {v : V}, Rp K H v d → Dp K H v d.py := by
  have all : ∀ {n : Nat} {ds : List D}, (∀ d ∈ ds, ∀ {v : V}, Rp K H v d → Dp K H v d.py) → ∀ {vs : List V}, RpAll K H vs ds → DpAll K H vs (D.pys ds) := by
    intro n ds hd vs r
    induction ds generalizing vs with
    | nil =>
      cases r
      rw [D.pys]
      exact .nil
    | cons d ds ih =>
      cases r with
      | cons r1 r2 =>
        rw [D.pys]
        exact .cons (hd d List.mem_cons_self r1) (ih (fun d' h' => hd d' (List.mem_cons_of_mem _ h')) r2)
  induction h with
  | non n => intro v r; cases r; rw [D.py]; exact .non
  | bool n b => intro v r; cases r; rw [D.py]; exact .bl b
  | int n i => intro v r; cases r; rw [D.py]; exact .int i
  | str n h => intro v r; cases r; rw [D.py]; exact .str _
  | @list n ds _ ih =>
    intro v r
    obtain ⟨a, xs, rfl, hx, rx⟩ := r.list_inv
    rw [D.py]
    exact .lst (.inl (.inl hx)) (all (n := n) (fun d hd {v} r => ih d hd r) rx)
  | @tup n ds _ ih =>
    intro v r
    obtain ⟨a, xs, rfl, hx, rx⟩ := r.tup_inv
    rw [D.py]
    exact .tup (.inl (.inl hx)) (all (n := n) (fun d hd {v} r => ih d hd r) rx)
theorem Pl.lay {n : Nat} {d : D} (h : Pl n d) : d.py.canLay0 = true ∧ d.py.depth ≤ n := by
  have all : ∀ {n : Nat} {ds : List D}, (∀ d ∈ ds, d.py.canLay0 = true ∧ d.py.depth ≤ n) → PyData.canLayAll0 (D.pys ds) = true ∧ PyData.depthAll (D.pys ds) ≤ n := by
    intro n ds hd
    induction ds with
    | nil => rw [D.pys]; exact ⟨rfl, Nat.zero_le _⟩
    | cons d ds ih =>
      obtain ⟨h1, h2⟩ := hd d List.mem_cons_self
      obtain ⟨h3, h4⟩ := ih fun d' h' => hd d' (List.mem_cons_of_mem _ h')
      rw [D.pys]
      refine ⟨?_, ?_⟩
      · simp [PyData.canLayAll0, h1, h3]
      · simp only [PyData.depthAll]
        omega
  induction h with
  | non n => rw [D.py]; exact ⟨rfl, Nat.zero_le _⟩
  | bool n b => rw [D.py]; exact ⟨rfl, Nat.zero_le _⟩
  | int n i => rw [D.py]; exact ⟨rfl, Nat.zero_le _⟩
  | str n h => rw [D.py]; exact ⟨h, Nat.zero_le _⟩
  | list _ ih =>
    obtain ⟨h1, h2⟩ := all ih
    rw [D.py]
    refine ⟨by simp only [PyData.canLay0]; exact h1, ?_⟩
    simp only [PyData.depth]
    omega
  | tup _ ih =>
    obtain ⟨h1, h2⟩ := all ih
    rw [D.py]
    refine ⟨by simp only [PyData.canLay0]; exact h1, ?_⟩
    simp only [PyData.depth]
    omega
theorem Pl.shaped {n : Nat} {d : D} (h : Pl n d) (hn : n ≤ 64 := by decide) : SeqAt.shaped d.py = true := by
  obtain ⟨h1, h2⟩ := h.lay
  unfold SeqAt.shaped
  rw [h1, decide_eq_true (Nat.le_trans h2 hn)]
  rfl
theorem rv_eqD {n m : Nat} {e : D} {b : Bool} (h : Pl n d) (h' : Pl m e) (hb : PyData.eqv d.py e.py = b) (hn : n ≤ 64 := by decide) (hm : m ≤ 64 := by decide) : RvD K (rEqD K) d e (.bool b) := fun F H u v dom r1 r2 Q q =>
  ⟨d.py, e.py, h.dp (r1.mono hide_sub), h'.dp (r2.mono hide_sub), h.shaped hn, h'.shaped hm, q _ H (Ex.refl H) (by rw [hb]; exact .bool _)⟩
theorem rv_neD {n m : Nat} {e : D} {b : Bool} (h : Pl n d) (h' : Pl m e) (hb : PyData.eqv d.py e.py = b) (hn : n ≤ 64 := by decide) (hm : m ≤ 64 := by decide) : RvD K (rNeD K) d e (.bool (!b)) := fun F H u v dom r1 r2 Q q =>
  ⟨d.py, e.py, h.dp (r1.mono hide_sub), h'.dp (r2.mono hide_sub), h.shaped hn, h'.shaped hm, q _ H (Ex.refl H) (by rw [hb]; exact .bool _)⟩
theorem Pl.refl {n : Nat} {d : D} (h : Pl n d) : PyData.eqv d.py d.py = true := SeqAt.eqv_refl _ h.lay.1
theorem rv_same {n : Nat} (h : Pl n d) (hn : n ≤ 64 := by decide) : RvD K (rEqD K) d d (.bool true) := rv_eqD h h h.refl hn hn
theorem rv_notSame {n : Nat} (h : Pl n d) (hn : n ≤ 64 := by decide) : RvD K (rNeD K) d d (.bool false) := rv_neD h h h.refl hn hn
theorem rv_neNil {n : Nat} (h : Pl n (.list ds)) (hn : n ≤ 64 := by decide) : RvD K (rNeD K) (.list ds) (.list []) (.bool (!ds.isEmpty)) :=
  rv_neD h (Pl.list (n := 0) fun _ h => nomatch h) (by
    cases ds with
    | nil => rw [D.py, D.pys]; rfl
    | cons d ds => rw [D.py, D.pys, D.py, D.pys]; rfl) hn
end
end
end DL

set_option maxRecDepth 100000
set_option maxHeartbeats 4000000
/-! The rules by the syntax: expressions, tests, calls, comprehensions. -/
namespace DL
open PySem PySem.Spec PyProof.Rows L2 Evl

/-- no starred argument -/
def notStar : Expr → Bool
  | .Starred _ _ => false
  | _ => true
theorem star_cons {e : Expr} {es : List Expr} {env : Env} (h : notStar e = true) : starEach (e :: es) env = (false, eval e env) :: starEach es env := by
  cases e <;> first | rfl | cases h
theorem star_one {e : Expr} {env : Env} (h : notStar e = true) : starEach [e] env = [(false, eval e env)] := star_cons h
theorem star_all {pos : Pos} {env : Env} : ∀ {es : List Expr}, es.all notStar = true → (backTo pos (starEach es env)).any (·.1) = false
  | [], _ => rfl
  | e :: es, h => by
    rw [List.all_cons, Bool.and_eq_true] at h
    rw [star_cons h.1]
    show (false || (backTo pos (starEach es env)).any (·.1)) = false
    rw [star_all h.2]
    rfl
theorem few_one {pos : Pos} {e : Expr} {env : Env} (h : notStar e = true) : ((backTo pos (starEach [e] env)).all (fun x => !x.1) && (backToKw pos (keywordEach [] env)).all (fun x => x.1.isSome)
      && decide ([e].length + ([] : List Keyword).length + (if ([] : List Keyword).isEmpty then 0 else 1) < 30)) = true := by
  rw [star_one h]
  rfl
/-- no call -/
def notCall : Expr → Bool
  | .Call _ _ _ _ => false
  | _ => true
theorem base_of {o : Expr} {f : Str} {env : Env} {w : Sem Value} (h : notCall o = true) : attributeBase o f env w = w := by
  cases o <;> first | rfl | cases h
/-- a def's promise, by data -/
def spD (K : PySem.W.Frag) (R : List D → D → Prop) : Sp := fun vs H Q _ => ∃ (F : List Addr) (ds : List D) (d : D), (∀ a ∈ F, H a ≠ none) ∧ RpAll K (hide F H) vs ds ∧ R ds d ∧ ∀ v H2, Ex H H2 → Rp K (hide F H2) v d → Q v H2
/-- a class's making, by data: its attributes in the end -/
def spI (K : PySem.W.Frag) (C : Addr) (R : List D → List (Str × D) → Prop) : Sp := fun vs H Q _ => ∃ (x dx : Addr) (H0 : Hp) (F : List Addr) (us : List V) (ds : List D) (fs : List (Str × D)),
  vs = .ref x :: us ∧ H0 x = none ∧ H0 dx = none ∧ dx ≠ x ∧ H = upd (upd H0 dx (.own x)) x (.ins C dx []) ∧ (∀ a ∈ F, H0 a ≠ none) ∧ RpAll K (hide F H0) us ds ∧ R ds fs ∧ ∀ H2, Ex H0 H2 → Rp K (hide F H2) (.ref x) (.ins C fs) → Q .non H2
section
variable (P : Program) (w : World) (K : PySem.W.Frag) (mg : Str → Option Value) (base : Heap)
structure CalD (k : Nat) (x : Str) (R : List D → D → Prop) : Prop where
  ex : ∃ f fd ps, FnOk P w K mg base CX0 k f fd ps (spD K R) ∧ mg x = some (.ref f) ∧ PySem.W.keepIn K (.ref f) = true ∧ Binds K fd ps []
structure MetD (k : Nat) (C : Addr) (m : Str) (R : List D → D → Prop) : Prop where
  ex : ∃ f fd ps, FnOk P w K mg base CX0 k f fd ps (spD K R) ∧ Meth K C m f ∧ Binds K fd ps [] ∧ Cls K C
structure MakD (k : Nat) (x : Str) (C : Addr) (R : List D → List (Str × D) → Prop) : Prop where
  ex : ∃ f fd ps, FnOk P w K mg base CX0 k f fd ps (spI K C R) ∧ Mk K C f ∧ mg x = some (.ref C) ∧ Binds K fd ps []
end
section
variable {X : Cx} {ρ : List Slot} {pos p apos cpos p2 : Pos} {e a b o c : Expr} {es : List Expr} {d x y : D} {ds xs ys : List D} {i j : Int} {s t : Str} {k n m : Nat} {R : List D → D → Prop} {C : Addr} {bb : Bool}
theorem ee_var (i : Nat) {x : Str} (hN : X.N[i]? = some x := by rfl) (hv : Vis X.env.scope x := by first | exact Or.inl rfl | exact Or.inr (Or.inl rfl) | exact Or.inr (Or.inr rfl)) (hd : (x == ("__debug__" : Str)) = false := by decide)
    (hcd : (x == ("__classdict__" : Str)) = false := by decide) (h : ρ[i]? = some (.dat d) := by rfl) : EE X (.Name x pos) ρ d := .of (pv i hN hv hd hcd) (evd_var h)
theorem ee_int {i : Int} {j : Nat} : EE X (.Constant (.int i) j pos) ρ (.int i) := .of pe_int (evd_c fun _ => .int _)
theorem ee_str {x : Str} {j : Nat} : EE X (.Constant (.str x) j pos) ρ (.str x) := .of pe_str (evd_c fun _ => .str _)
theorem ee_bool {b : Bool} {j : Nat} : EE X (.Constant (.bool b) j pos) ρ (.bool b) := .of pe_bl (evd_c fun _ => .bool _)
theorem ee_non {j : Nat} : EE X (.Constant .none j pos) ρ .non := .of pe_non (evd_c fun _ => .non)
theorem ee_is (h : EE X e ρ x) (q : x = y) : EE X e ρ y := q ▸ h
theorem en_is (h : EN X e ρ xs) (q : xs = ys) : EN X e ρ ys := q ▸ h
theorem et_is {b' : Bool} (h : ET X e ρ bb) (q : bb = b') : ET X e ρ b' := q ▸ h
/-! ### operators -/
theorem ee_add (ha : EE X a ρ (.int i)) (hb : EE X b ρ (.int j)) : EE X (.BinOp a .Add b pos) ρ (.int (i + j)) := .of (pe_op op_add pe_w pe_w) (evd_op ha.ev hb.ev rv_int)
theorem ee_sub (ha : EE X a ρ (.int i)) (hb : EE X b ρ (.int j)) : EE X (.BinOp a .Sub b pos) ρ (.int (i - j)) := .of (pe_op op_sub pe_w pe_w) (evd_op ha.ev hb.ev rv_int)
theorem ee_mul (ha : EE X a ρ (.int i)) (hb : EE X b ρ (.int j)) (h : CMul i j) : EE X (.BinOp a .Mult b pos) ρ (.int (i * j)) := .of (pe_op op_mul pe_w pe_w) (evd_op ha.ev hb.ev (rv_intC h))
theorem ee_fdiv (ha : EE X a ρ (.int i)) (hb : EE X b ρ (.int j)) (h : CDiv i j := by exact ⟨by decide, by decide⟩) : EE X (.BinOp a .FloorDiv b pos) ρ (.int (i / j)) := .of (pe_op op_fdiv pe_w pe_w) (evd_op ha.ev hb.ev (rv_intC h))
theorem ee_mod (ha : EE X a ρ (.int i)) (hb : EE X b ρ (.int j)) (h : 0 < j := by decide) : EE X (.BinOp a .Mod b pos) ρ (.int (i % j)) := .of (pe_op op_mod pe_w pe_w) (evd_op ha.ev hb.ev (rv_intC h))
theorem ee_adds (ha : EE X a ρ (.str s)) (hb : EE X b ρ (.str t)) (h : s.length + t.length ≤ 100000) : EE X (.BinOp a .Add b pos) ρ (.str (s ++ t)) := .of (pe_op op_add_str pe_w pe_w) (evd_op ha.ev hb.ev (rv_adds h))
theorem en_cat (ha : EE X a ρ (.list xs)) (hb : EE X b ρ (.list ys)) (h : xs.length + ys.length ≤ 100000) : EN X (.BinOp a .Add b pos) ρ (xs ++ ys) := .of (pe_op op_cat pe_w pe_w) (evn_op ha.ev hb.ev (rn_cat h))
theorem en_rep (ha : EE X a ρ (.list [d])) (hb : EE X b ρ (.int i)) (h0 : 0 ≤ i) (h : i ≤ 100000) : EN X (.BinOp a .Mult b pos) ρ (List.replicate i.toNat d) := .of (pe_op op_rep pe_w pe_w) (evn_op ha.ev hb.ev (rn_rep h0 h))
/-! ### comparisons -/
theorem ee_cmp {op : CmpOp} {r : R2} (ho : OpR X (compareOp op) r) (ha : EE X a ρ x) (hb : EE X b ρ y) (hr : RvD X.K r x y d) (hm : behindInMarks op b = false) : EE X (.Compare a [op] [b] pos) ρ d := .of (pe_cmpR ho pe_w pe_w hm) (evd_op ha.ev hb.ev hr)
theorem et_cmp {op : CmpOp} {r : R2} (ho : OpR X (compareOp op) r) (ha : EE X a ρ x) (hb : EE X b ρ y) (hr : RvD X.K r x y (.bool bb)) (hm : behindInMarks op b = false) : ET X (.Compare a [op] [b] pos) ρ bb := .of (pt_cmpR ho pe_w pe_w hm) (evt_test (evd_op ha.ev hb.ev hr))
theorem et_eqI (ha : EE X a ρ (.int i)) (hb : EE X b ρ (.int j)) : ET X (.Compare a [.Eq] [b] pos) ρ (decide (i = j)) := et_cmp op_eq ha hb rv_eqI (nomark _)
theorem ee_eqI (ha : EE X a ρ (.int i)) (hb : EE X b ρ (.int j)) : EE X (.Compare a [.Eq] [b] pos) ρ (.bool (decide (i = j))) := ee_cmp op_eq ha hb rv_eqI (nomark _)
theorem et_gt (ha : EE X a ρ (.int i)) (hb : EE X b ρ (.int j)) : ET X (.Compare a [.Gt] [b] pos) ρ (decide (j < i)) := et_cmp op_gt ha hb rv_cmp (nomark _)
theorem et_eqS (ha : EE X a ρ (.str s)) (hb : EE X b ρ (.str t)) : ET X (.Compare a [.Eq] [b] pos) ρ (decide (s = t)) := et_cmp op_eq ha hb rv_eqS (nomark _)
theorem et_isN {j : Nat} (ha : EE X a ρ d) : ET X (.Compare a [.Is] [.Constant .none j p] pos) ρ d.isNon := et_cmp op_isN ha ee_non rv_isN (nomark _)
theorem et_notN {j : Nat} (ha : EE X a ρ d) : ET X (.Compare a [.IsNot] [.Constant .none j p] pos) ρ (!d.isNon) := et_cmp op_notN ha ee_non rv_notN (nomark _)
theorem et_in {ss : List Str} (ha : EE X a ρ (.str s)) (hb : EE X b ρ (.list (ss.map D.str))) (hm : behindInMarks .In b = false := by rfl) : ET X (.Compare a [.In] [b] pos) ρ (decide (s ∈ ss)) := et_cmp op_in_seq ha hb rv_in hm
theorem et_notIn {ss : List Str} (ha : EE X a ρ (.str s)) (hb : EE X b ρ (.list (ss.map D.str))) (hm : behindInMarks .NotIn b = false := by rfl) : ET X (.Compare a [.NotIn] [b] pos) ρ (!decide (s ∈ ss)) := et_cmp op_notIn_seq ha hb rv_notIn hm
theorem et_ne (hr : Room k X.A) (ha : EE X a ρ d) (hb : EE X b ρ d) (h : Pl n d) (hn : n ≤ 64 := by decide) : ET X (.Compare a [.NotEq] [b] pos) ρ false := et_cmp (op_neD hr.units) ha hb (rv_notSame h hn) (nomark _)
theorem ee_eq (hr : Room k X.A) (ha : EE X a ρ d) (hb : EE X b ρ d) (h : Pl n d) (hn : n ≤ 64 := by decide) : EE X (.Compare a [.Eq] [b] pos) ρ (.bool true) := ee_cmp (op_eqD hr.units) ha hb (rv_same h hn) (nomark _)
theorem et_neNil (hr : Room k X.A) (ha : EE X a ρ (.list ds)) (hb : EE X b ρ (.list [])) (h : Pl n (.list ds)) (hn : n ≤ 64 := by decide) : ET X (.Compare a [.NotEq] [b] pos) ρ (!ds.isEmpty) := et_cmp (op_neD hr.units) ha hb (rv_neNil h hn) (nomark _)
/-! ### truth -/
theorem et_call (h : EE X e ρ (.bool bb)) (he : ∀ whole, isTrue e X.env whole = (do let v ← whole; standAt e.pos; holding [v] (truthy v)) := by intro _; rfl) : ET X e ρ bb := .of (pt_val pe_w he) (evt_B h.ev)
theorem et_not (h : ET X e ρ bb) : ET X (.UnaryOp .Not e pos) ρ (!bb) := .of (pt_not pt_w) (evt_not h.ev)
theorem ew_or1 (h : ET X e ρ bb) : EW X (.BoolOp .Or [e] pos) ρ bb := .of (pw_or1 pt_w) h.ev
theorem ew_orF (h : ET X e ρ false) (h2 : EW X (.BoolOp .Or (b :: es) pos) ρ bb) : EW X (.BoolOp .Or (e :: b :: es) pos) ρ bb := .of (pw_or pt_w pw_w) (evt_orF h.ev h2.ev)
theorem EW.toT (h : EW X e ρ bb) : ET X e ρ bb := ⟨fun B F0 F σ H S Q q pins s I => h.ev B F0 F σ H S Q q _ pins s I⟩
/-! ### displays, conditions -/
theorem ea_nil : EA X [] ρ [] := .of pa_nil evad_nil
theorem ea_cons (ha : EE X e ρ d) (hr : EA X es ρ ds) (hs : notStar e = true := by rfl) : EA X (e :: es) ρ (d :: ds) := .of (pa_cons pe_w pa_w (star_cons hs)) (evad_cons ha.ev hr.ev)
/-- written texts -/
inductive StrEs : List Expr → List Str → Prop
  | nil : StrEs [] []
  | cons {x : Str} {j : Nat} {p : Pos} {es : List Expr} {ws : List Str} : StrEs es ws → StrEs (.Constant (.str x) j p :: es) (x :: ws)
theorem ea_strs {ws : List Str} (h : StrEs es ws) : EA X es ρ (ws.map D.str) := by
  induction h with
  | nil => exact ea_nil
  | cons _ ih => exact ea_cons ee_str ih
theorem ee_tup {k : Nat} (h : EA X es ρ ds) (hl : ds.length ≤ 100000 := by first | decide | exact Nat.le_of_ble_eq_true rfl) : EE X (.Tuple es k pos) ρ (.tup ds) := .of (pe_tup pa_w) (evd_tup h.ev hl)
theorem en_lst (h : EA X es ρ ds) (hl : ds.length ≤ 100000 := by first | decide | exact Nat.le_of_ble_eq_true rfl) : EN X (.List es pos) ρ ds := .of (pe_lst pa_w) (evn_lst h.ev hl)
theorem ee_if (h : ET X c ρ bb) (h1 : bb = true → EE X a ρ d) (h2 : bb = false → EE X b ρ d) : EE X (.IfExp c a b pos) ρ d := .of (pe_ifExp pt_w pe_w pe_w) (evd_if h.ev (fun z => (h1 z).ev) (fun z => (h2 z).ev))
/-! ### items, slices -/
theorem ee_ixL (ha : EE X a ρ (.list ds)) (hb : EE X b ρ (.int i)) (h : atI ds i = some d) (hs : PlainIx b := by exact fun _ _ => rfl) : EE X (.Subscript a b pos) ρ d := .of (pe_ix ix_list pe_w pe_w hs) (evd_op ha.ev hb.ev (rv_ixL h))
theorem ee_ixT (ha : EE X a ρ (.tup ds)) (hb : EE X b ρ (.int i)) (h : atI ds i = some d := by rfl) (hs : PlainIx b := by exact fun _ _ => rfl) : EE X (.Subscript a b pos) ρ d := .of (pe_ix ix_tup pe_w pe_w hs) (evd_op ha.ev hb.ev (rv_ixT h))
theorem ee_ixC {ns : List Int} (ha : EE X a ρ (.scr ns)) (hb : EE X b ρ (.int i)) (h : atI ns i = some j) (hs : PlainIx b := by exact fun _ _ => rfl) : EE X (.Subscript a b pos) ρ (.int j) := .of (pe_ix ix_list pe_w pe_w hs) (evd_op ha.ev hb.ev (rv_ixC h))
theorem ee_ixS {cc : Nat} (ha : EE X a ρ (.str s)) (hb : EE X b ρ (.int i)) (hl : s.length ≤ 100000) (h : atI s.cps.toList i = some cc) (hs : PlainIx b := by exact fun _ _ => rfl) : EE X (.Subscript a b pos) ρ (.str ⟨#[cc]⟩) := .of (pe_ix ix_str pe_w pe_w hs) (evd_op ha.ev hb.ev (rv_ixS hl h))
theorem ee_ixOwn (i : Nat) {x : Str} {n : Int} (hb : EE X b ρ (.int n)) (h : atI ds n = some d) (ho : ρ[i]? = some (.own ds) := by rfl) (hN : X.N[i]? = some x := by rfl) (hv : Vis X.env.scope x := by first | exact Or.inl rfl | exact Or.inr (Or.inl rfl) | exact Or.inr (Or.inr rfl)) (hd : (x == ("__debug__" : Str)) = false := by decide)
    (hcd : (x == ("__classdict__" : Str)) = false := by decide) (hs : PlainIx b := by exact fun _ _ => rfl) : EE X (.Subscript (.Name x p) b pos) ρ d := .of (pe_ix ix_list (pe_var hN hv hd hcd) pe_w hs) (evd_ixOwn ho hb.ev h)
theorem valV_dic {H : Hp} {K : PySem.W.Frag} : ∀ {kvs : List (Str × V)} {ds : List (Str × D)} {q : Str} {d : D}, RpKv K H kvs ds → ds.lookup q = some d → ∃ v, valV (kvs.map fun p => ((Sum.inr p.1 : Key), p.2)) (Sum.inr q) = some v ∧ Rp K H v d := by
  intro kvs ds q d r h
  obtain ⟨v, e, rv⟩ := r.look h
  refine ⟨v, ?_, rv⟩
  clear r h rv
  induction kvs with
  | nil => cases e
  | cons p kvs ih =>
    obtain ⟨k, u⟩ := p
    unfold valV at ih ⊢
    rw [List.map_cons, List.find?_cons]
    rw [List.lookup_cons] at e
    by_cases hk : k = q
    · subst hk
      simp at e
      simp [e]
    · have h1 : (q == k) = false := by simp; exact fun z => hk z.symm
      rw [h1] at e
      have h2 : decide ((Sum.inr k : Key) = Sum.inr q) = false := by simp [hk]
      rw [h2]
      exact ih e
theorem ee_ixD {kvs : List (Str × D)} (hr : Room k X.A) (ha : EE X a ρ (.dic kvs)) (hb : EE X b ρ (.str s)) (h : kvs.lookup s = some d) (hs : NoSl b := by exact fun _ _ => rfl) : EE X (.Subscript a b pos) ρ d :=
  .of (pe_dget (hu_of hr) pe_w pe_w hs) fun B F0 F σ H S Q q => ha.ev B F0 F σ H S _ fun u H1 e1 r1 => hb.ev B F0 F σ H1 (S.mono e1) _ fun v H2 e2 r2 => by
    obtain ⟨p, kv, rfl, hx, rx⟩ := (r1.mono (hide_mono e2)).dic_inv
    obtain rfl := r2.str_inv
    obtain ⟨w, e3, r3⟩ := valV_dic rx h
    exact ⟨p, w, rfl, by rw [← e3]; exact DGet.k (k := Sum.inr s) (hide_sub _ _ hx), q w H2 (e1.trans e2) r3⟩
theorem eo_none : EO X none ρ none := .of po_none evo_none
theorem eo_some (h : EE X e ρ (.int i)) : EO X (some e) ρ (some i) := .of (po_some pe_w) (evo_some h.ev)
/-- the data of xs[lo:hi] -/
def cutD (ds : List D) (lo hi : Option Int) : List D := (ds.drop (HT.sIx ds.length 0 lo)).take (HT.sIx ds.length ds.length hi - HT.sIx ds.length 0 lo)
theorem RpAll.cut {K : PySem.W.Frag} {H : Hp} {vs : List V} {lo hi : Option Int} (r : RpAll K H vs ds) : RpAll K H (cutV vs lo hi) (cutD ds lo hi) := by
  unfold cutV cutD
  rw [r.len]
  exact RpAll.take _ (RpAll.drop _ r)
theorem en_slL {lo hi : Option Expr} {l h : Option Int} (ha : EE X a ρ (.list ds)) (h1 : EO X lo ρ l) (h2 : EO X hi ρ h) : EN X (.Subscript a (.Slice lo hi none p2) pos) ρ (cutD ds l h) :=
  .of (pe_slice sl_list pe_w po_w po_w) fun B F0 F σ H S Q q => ha.ev B F0 F σ H S _ fun u H1 e1 r1 => h1.ev B F0 F σ H1 (S.mono e1) _ fun H2 e2 => h2.ev B F0 F σ H2 ((S.mono e1).mono e2) _ fun H3 e3 => by
    obtain ⟨a, xs, rfl, hx, rx⟩ := (r1.mono (hide_mono (e2.trans e3))).list_inv
    exact ⟨a, xs, rfl, .inl (.inl (hide_sub _ _ hx)), fun p hp => q p _ _ (fresh_back ((e1.trans e2).trans e3) hp) (((e1.trans e2).trans e3).trans (Ex.new hp)) upd_same (rx.cut.mono (hide_more hp (Ex.new hp)))⟩
theorem ee_slT {lo hi : Option Expr} {l h : Option Int} (ha : EE X a ρ (.tup ds)) (h1 : EO X lo ρ l) (h2 : EO X hi ρ h) (hw : ¬ (HT.sIx ds.length 0 l = 0 ∧ HT.sIx ds.length ds.length h = ds.length)) : EE X (.Subscript a (.Slice lo hi none p2) pos) ρ (.tup (cutD ds l h)) :=
  .of (pe_slice sl_tup pe_w po_w po_w) fun B F0 F σ H S Q q => ha.ev B F0 F σ H S _ fun u H1 e1 r1 => h1.ev B F0 F σ H1 (S.mono e1) _ fun H2 e2 => h2.ev B F0 F σ H2 ((S.mono e1).mono e2) _ fun H3 e3 => by
    obtain ⟨a, xs, rfl, hx, rx⟩ := (r1.mono (hide_mono (e2.trans e3))).tup_inv
    exact ⟨a, xs, rfl, .inl (.inl (hide_sub _ _ hx)), by rw [rx.len]; exact hw, fun p hp => q _ _ (((e1.trans e2).trans e3).trans (Ex.new hp)) (.tup (hide_some (((S.mono e1).mono e2).mono e3 |>.hs.fresh hp) upd_same) (rx.cut.mono (hide_mono (Ex.new hp))))⟩
theorem ee_slS {lo hi : Option Expr} {l h : Option Int} (ha : EE X a ρ (.str s)) (h1 : EO X lo ρ l) (h2 : EO X hi ρ h) (hl : s.length ≤ 100000) : EE X (.Subscript a (.Slice lo hi none p2) pos) ρ (.str (cutS s l h)) :=
  .of (pe_slice sl_str pe_w po_w po_w) fun B F0 F σ H S Q q => ha.ev B F0 F σ H S _ fun u H1 e1 r1 => h1.ev B F0 F σ H1 (S.mono e1) _ fun H2 e2 => h2.ev B F0 F σ H2 ((S.mono e1).mono e2) _ fun H3 e3 =>
    ⟨s, r1.str_inv, sz_of hl, q _ H3 ((e1.trans e2).trans e3) (.str _)⟩
/-! ### built-ins -/
theorem ee_len (hm : X.mg "len" = none) (h : EE X e ρ (.list ds)) (hg : Gl X "len" := by rfl)
    (he : notStar e = true := by rfl) : EE X (.Call (.Name "len" p) [e] [] pos) ρ (.int (ds.length : Int)) :=
  .of (pe_callB call_len_seq hg hm (by decide +kernel) (pa_cons pe_w pa_nil (star_cons he)) (by decide) (by decide) (star_cons he)) (evd_cb (evad_cons h.ev evad_nil) fun F H vs dom r Q q => by
    cases r with
    | cons r rn =>
      cases rn
      obtain ⟨p, xs, rfl, hx, rx⟩ := r.list_inv
      exact ⟨p, xs, rfl, .inl (.inl (.inl (hide_sub _ _ hx))), q _ H (Ex.refl H) (by rw [rx.len]; exact .int _)⟩)
theorem ee_lenC {ns : List Int} (hm : X.mg "len" = none) (h : EE X e ρ (.scr ns)) (hg : Gl X "len" := by rfl)
    (he : notStar e = true := by rfl) : EE X (.Call (.Name "len" p) [e] [] pos) ρ (.int (ns.length : Int)) :=
  .of (pe_callB call_len_seq hg hm (by decide +kernel) (pa_cons pe_w pa_nil (star_cons he)) (by decide) (by decide) (star_cons he)) (evd_cb (evad_cons h.ev evad_nil) fun F H vs dom r Q q => by
    cases r with
    | cons r rn =>
      cases rn
      obtain ⟨p, rfl, hx⟩ := r.scr_inv
      exact ⟨p, _, rfl, .inl (ex_l hide_sub hx), q _ H (Ex.refl H) (by rw [List.length_map]; exact .int _)⟩)
theorem ee_intB (hm : X.mg "int" = none) (h : EE X e ρ (.bool bb)) (hg : Gl X "int" := by rfl)
    (he : notStar e = true := by rfl) : EE X (.Call (.Name "int" p) [e] [] pos) ρ (.int (if bb then 1 else 0)) :=
  .of (pe_callTy call_int1 hg hm (by decide +kernel) (pa_cons pe_w pa_nil (star_cons he)) (by decide) (by decide) (star_cons he)) (evd_cb (evad_cons h.ev evad_nil) fun F H vs dom r Q q => by
    cases r with
    | cons r rn =>
      cases rn
      obtain rfl := r.bool_inv
      exact .inr ⟨bb, rfl, q _ H (Ex.refl H) (.int _)⟩)
theorem ee_strI (hm : X.mg "str" = none) (h : EE X e ρ (.int i)) (hi : i.natAbs.log2 < 1920) (hg : Gl X "str" := by rfl)
    (he : notStar e = true := by rfl) : EE X (.Call (.Name "str" p) [e] [] pos) ρ (.str (toString i)) :=
  .of (pe_callTy call_str_int hg hm (by decide +kernel) (pa_cons pe_w pa_nil (star_cons he)) (by decide) (by decide) (star_cons he)) (evd_cb (evad_cons h.ev evad_nil) fun F H vs dom r Q q => by
    cases r with
    | cons r rn =>
      cases rn
      obtain rfl := r.int_inv
      exact ⟨i, rfl, hi, q _ H (Ex.refl H) (.str _)⟩)
theorem en_list (hm : X.mg "list" = none) (h : EE X e ρ (.list ds)) (hg : Gl X "list" := by rfl)
    (he : notStar e = true := by rfl) : EN X (.Call (.Name "list" p) [e] [] pos) ρ ds :=
  .of (pe_callTy call_list_of hg hm (by decide +kernel) (pa_cons pe_w pa_nil (star_cons he)) (by decide) (by decide) (star_cons he)) (evn_cb (evad_cons h.ev evad_nil) fun F H vs dom r Q q => by
    cases r with
    | cons r rn =>
      cases rn
      obtain ⟨p, xs, rfl, hx, rx⟩ := r.list_inv
      exact ⟨p, xs, rfl, .inl (.inl (.inl (hide_sub _ _ hx))), fun l hl => q l _ _ hl (Ex.new hl) upd_same (rx.mono (hide_more hl (Ex.new hl)))⟩)
theorem en_listT (hm : X.mg "list" = none) (h : EE X e ρ (.tup ds)) (hg : Gl X "list" := by rfl)
    (he : notStar e = true := by rfl) : EN X (.Call (.Name "list" p) [e] [] pos) ρ ds :=
  .of (pe_callTy call_list_of hg hm (by decide +kernel) (pa_cons pe_w pa_nil (star_cons he)) (by decide) (by decide) (star_cons he)) (evn_cb (evad_cons h.ev evad_nil) fun F H vs dom r Q q => by
    cases r with
    | cons r rn =>
      cases rn
      obtain ⟨p, xs, rfl, hx, rx⟩ := r.tup_inv
      exact ⟨p, xs, rfl, .inr (.inl (.inl (hide_sub _ _ hx))), fun l hl => q l _ _ hl (Ex.new hl) upd_same (rx.mono (hide_more hl (Ex.new hl)))⟩)
theorem ee_tupleOf (hm : X.mg "tuple" = none) (h : EE X e ρ (.list ds)) (hg : Gl X "tuple" := by rfl)
    (he : notStar e = true := by rfl) : EE X (.Call (.Name "tuple" p) [e] [] pos) ρ (.tup ds) :=
  .of (pe_callTy call_tuple_of hg hm (by decide +kernel) (pa_cons pe_w pa_nil (star_cons he)) (by decide) (by decide) (star_cons he)) (evd_cb (evad_cons h.ev evad_nil) fun F H vs dom r Q q => by
    cases r with
    | cons r rn =>
      cases rn
      obtain ⟨p, xs, rfl, hx, rx⟩ := r.list_inv
      exact ⟨p, xs, rfl, .inl ⟨.inl (.inl (hide_sub _ _ hx)), fun l hl => q _ _ (Ex.new hl) (.tup (hide_some (fun z => dom l z hl) upd_same) (rx.mono (hide_mono (Ex.new hl))))⟩⟩)
theorem ee_join {ss : List Str} (ho : EE X o ρ (.str s)) (h : EE X e ρ (.list (ss.map D.str))) (hl : (ss.map (·.length)).sum + ss.length * s.length ≤ 16777216) (hs : notStar e = true := by rfl)
    (hbase : notCall o = true := by rfl) (hline : (apos.endLine == pos.line) = true := by rfl) : EE X (.Call (.Attribute o "join" apos) [e] [] pos) ρ (.str (Txt.join s ss)) :=
  .of (pe_join pe_w pe_w (star_one hs) (base_of hbase) hline) fun B F0 F σ H S Q q => ho.ev B F0 F σ H S _ fun u H1 e1 r1 => ⟨⟨s, r1.str_inv⟩, h.ev B F0 F σ H1 (S.mono e1) _ fun v H2 e2 r2 => by
    obtain ⟨p, xs, rfl, hx, rx⟩ := r2.list_inv
    obtain rfl := rx.strs
    exact ⟨s, p, ss, r1.str_inv, rfl, .inl (.inl (.inl (hide_sub _ _ hx))), hl, q _ H2 (e1.trans e2) (.str _)⟩⟩
/-- xs.index(s), the first place -/
theorem ee_index {ss : List Str} (ho : EE X o ρ (.list (ss.map D.str))) (h : EE X e ρ (.str s)) (hi : ss[n]? = some s) (hno : ∀ m, m < n → ss[m]? ≠ some s) (hbase : notCall o = true := by rfl)
    (hline : (apos.endLine == cpos.line) = true := by rfl) (hs : notStar e = true := by rfl) : EE X (.Call (.Attribute o "index" apos) [e] [] cpos) ρ (.int (n : Int)) :=
  .of (pe_bm PySem.F.plainAttrs_list PySem.F.slot_list_index PySem.F.type_list_index mt_index pe_w (pa_cons pe_w pa_nil (star_cons hs)) (base_of hbase) (few_one hs) hline (star_cons hs)) fun B F0 F σ H S Q q => ho.ev B F0 F σ H S _ fun u H1 e1 r1 => by
    obtain ⟨p, xs, rfl, hx, rx⟩ := r1.list_inv
    obtain rfl := rx.strs
    refine ⟨.inl ⟨rfl, _, .inl (.inl (hide_sub _ _ hx))⟩, h.ev B F0 F σ H1 (S.mono e1) _ fun v H2 e2 r2 => ?_⟩
    obtain rfl := r2.str_inv
    refine ⟨p, _, .str s, n, .str s, rfl, rfl, .inl (.inl (hide_sub _ _ (hide_mono e2 _ _ hx))), rfl, flat_strs _, by rw [List.getElem?_map, hi]; rfl, by show (s == s) = true; simp, fun m z hm hz => ?_, q _ H2 (e1.trans e2) (.int _)⟩
    rw [List.getElem?_map] at hz
    cases q' : ss[m]? with
    | none => rw [q'] at hz; cases hz
    | some t =>
      rw [q'] at hz
      cases hz
      show (t == s) = false
      have : t ≠ s := fun z => hno m hm (by rw [q', z])
      simp [this]
/-! ### attributes, calls -/
theorem ee_fld {fs : List (Str × D)} {f : Str} (ho : EE X o ρ (.ins C fs)) (hc : Cls X.K C) (hn : NoAttr X.K C f) (h : fs.lookup f = some d) (hb : notCall o = true := by rfl) : EE X (.Attribute o f pos) ρ d :=
  .of (pe_fld pe_w (base_of hb)) fun B F0 F σ H S Q q => ho.ev B F0 F σ H S _ fun u H1 e1 r1 => by
    obtain ⟨p, dx, gs, rfl, hx, rx⟩ := r1.ins_inv
    obtain ⟨v, e2, r2⟩ := rx.look h
    exact ⟨p, C, dx, gs, v, rfl, hide_sub _ _ hx, hc, hn, e2, q v H1 e1 r2⟩
theorem ee_call {x : Str} {j : Nat} (c : CalD X.prog X.w X.K X.mg X.base k x R) (hr : Room j X.A) (hk : k ≤ j) (ha : EA X (e :: es) ρ ds) (hR : R ds d) (hg : Gl X x := by rfl) (hdb : (x == ("__debug__" : Str)) = false := by decide)
    (he : notStar e = true := by rfl) (hpl : es.all notStar = true := by rfl) : EE X (.Call (.Name x p) (e :: es) [] pos) ρ d := by
  obtain ⟨f, fd, ps, F, hm, hkp, hb⟩ := c.ex
  refine .of (pe_call F (hr.mono hk) hg hm hkp hb .nil pass0 pa_w hdb (star_cons he) (star_all hpl)) fun B F0 F σ H S Q q => ha.ev B F0 F σ H S _ fun vs H1 e1 r1 => ?_
  rw [List.append_nil]
  exact ⟨F, ds, d, (S.mono e1).hs.dom, r1, hR, fun v H2 e2 r2 => q v H2 (e1.trans e2) r2⟩
theorem ee_meth {m : Str} {j : Nat} {fs : List (Str × D)} {pl : Sem Bool} (c : MetD X.prog X.w X.K X.mg X.base k C m R) (hr : Room j X.A) (hk : k ≤ j) (ho : EE X o ρ (.ins C fs)) (hm : fs.lookup m = none) (ha : EA X (e :: es) ρ ds) (hR : R (.ins C fs :: ds) d)
    (hst : notStar e = true := by rfl) (hpl : es.all notStar = true := by rfl)
    (ht : eval (.Call (.Attribute o m apos) (e :: es) [] pos) X.env = (do
      let ov ← eval o X.env
      standAt apos.atName
      let (f, first) ← holding [ov] (getMethod ov m pl)
      callWith pos f first (backTo pos (starEach (e :: es) X.env)) (backToKw pos (keywordEach [] X.env))) := by rfl) : EE X (.Call (.Attribute o m apos) (e :: es) [] pos) ρ d := by
  obtain ⟨f, fd, ps, F, hme, hb, hc⟩ := c.ex
  refine .of (pe_meth pe_w hc hme F (hr.mono hk) hb .nil pass0 pa_w (star_cons hst) (star_all hpl) ht) fun B F0 F σ H S Q q => ho.ev B F0 F σ H S _ fun u H1 e1 r1 => ?_
  obtain ⟨a, dx, gs, rfl, hx, rx⟩ := r1.ins_inv
  refine ⟨a, dx, gs, rfl, hide_sub _ _ hx, rx.lookN hm, ha.ev B F0 F σ H1 (S.mono e1) _ fun vs H2 e2 r2 => ?_⟩
  rw [List.append_nil]
  exact ⟨F, _, d, ((S.mono e1).mono e2).hs.dom, .cons (r1.mono (hide_mono e2)) r2, hR, fun v H3 e3 r3 => q v H3 ((e1.trans e2).trans e3) r3⟩
theorem ee_meth0 {m : Str} {j : Nat} {fs : List (Str × D)} {pl : Sem Bool} (c : MetD X.prog X.w X.K X.mg X.base k C m R) (hr : Room j X.A) (hk : k ≤ j) (ho : EE X o ρ (.ins C fs)) (hm : fs.lookup m = none) (hR : R [.ins C fs] d)
    (ht : eval (.Call (.Attribute o m apos) [] [] pos) X.env = (do
      let ov ← eval o X.env
      standAt apos.atName
      let (f, first) ← holding [ov] (getMethod ov m pl)
      callWith pos f first (backTo pos (starEach [] X.env)) (backToKw pos (keywordEach [] X.env))) := by rfl) : EE X (.Call (.Attribute o m apos) [] [] pos) ρ d := by
  obtain ⟨f, fd, ps, F, hme, hb, hc⟩ := c.ex
  refine .of (pe_meth0 pe_w hc hme F (hr.mono hk) hb .nil pass0 ht) fun B F0 F σ H S Q q => ho.ev B F0 F σ H S _ fun u H1 e1 r1 => ?_
  obtain ⟨a, dx, gs, rfl, hx, rx⟩ := r1.ins_inv
  refine ⟨a, dx, gs, rfl, hide_sub _ _ hx, rx.lookN hm, ?_⟩
  exact ⟨F, [.ins C fs], d, (S.mono e1).hs.dom, .cons r1 .nil, hR, fun v H3 e3 r3 => q v H3 (e1.trans e3) r3⟩
theorem ee_make {x : Str} {j : Nat} {Ri : List D → List (Str × D) → Prop} {fs : List (Str × D)} (c : MakD X.prog X.w X.K X.mg X.base k x C Ri) (hr : Room j X.A) (hk : k + 1 ≤ j) (ha : EA X (e :: es) ρ ds) (hR : Ri ds fs) (hg : Gl X x := by rfl) (hdb : (x == ("__debug__" : Str)) = false := by decide)
    (he : notStar e = true := by rfl) (hpl : es.all notStar = true := by rfl) : EE X (.Call (.Name x p) (e :: es) [] pos) ρ (.ins C fs) := by
  obtain ⟨f, fd, ps, F, hM, hm, hb⟩ := c.ex
  refine .of (pe_make hM F (hr.mono hk) hg hm hb .nil pass0 pa_w hdb (star_cons he) (star_all hpl)) fun B F0 F σ H S Q q => ha.ev B F0 F σ H S _ fun vs H1 e1 r1 x dx hx hdx ne => ?_
  rw [List.append_nil]
  exact ⟨x, dx, H1, F, vs, ds, fs, rfl, hx, hdx, ne, rfl, (S.mono e1).hs.dom, r1, hR, fun H2 e2 r2 => ⟨rfl, q _ H2 (e1.trans e2) r2⟩⟩
end
end DL

set_option maxRecDepth 100000
set_option maxHeartbeats 4000000
/-! Comprehensions, walks, statements, defs: told by data. -/
namespace DL
open PySem PySem.Spec PyProof.Rows L2 Evl

/-! ### comprehensions -/
theorem wipe_at (σ : L2.St) (k : Nat) : ∀ vs : List Nat, (wipe σ vs)[k]? = if k ∈ vs then (if k < σ.length then some none else none) else σ[k]?
  | [] => by simp [wipe]
  | v :: vs => by
    unfold wipe
    have ih := wipe_at σ k vs
    by_cases hk : k = v
    · subst hk
      rw [if_pos List.mem_cons_self]
      by_cases hl : k < σ.length
      · rw [if_pos hl, List.getElem?_set_self (by rw [wipe_length]; exact hl)]
      · rw [if_neg hl, List.getElem?_eq_none (by rw [List.length_set, wipe_length]; omega)]
    · rw [List.getElem?_set_ne (fun z => hk z.symm), ih]
      by_cases hm : k ∈ vs
      · rw [if_pos hm, if_pos (List.mem_cons_of_mem _ hm)]
      · rw [if_neg hm, if_neg (fun z => (List.mem_cons.mp z).elim hk hm)]
theorem wipe_same {σ σ2 : L2.St} {vs js : List Nat} (hl : σ2.length = (wipe σ vs).length) (h : ∀ k, k ∉ js → σ2[k]? = (wipe σ vs)[k]?) (hj : ∀ j ∈ js, j ∈ vs) : wipe σ2 vs = wipe σ vs := by
  apply List.ext_getElem?
  intro k
  rw [wipe_at σ2, wipe_at σ]
  rw [wipe_length] at hl
  by_cases hk : k ∈ vs
  · rw [if_pos hk, if_pos hk, hl]
  · rw [if_neg hk, if_neg hk, h k (fun z => hk (hj k z)), wipe_at, if_neg hk]
def wipeD (ρ : List Slot) : List Nat → List Slot
  | [] => ρ
  | v :: vs => (wipeD ρ vs).set v .no
theorem ST.wipe {K : PySem.W.Frag} {B H : Hp} {F0 F : List Addr} {σ : L2.St} {ρ : List Slot} (h : ST K B F0 F σ H ρ) : ∀ vs : List Nat, ST K B F0 F (L2.wipe σ vs) H (wipeD ρ vs)
  | [] => h
  | v :: vs => (ST.wipe h vs).forget
section
variable {K : PySem.W.Frag} {ρ : List Slot} {wi : TI} {g : TG} {tt : TT} {te : TE} {vs : List Nat}
theorem evn_lc {α : Type} (as : List α) (enc : α → D) (f : α → Bool) (e : α → D) (hi : ItD K wi ρ (as.map enc)) (hl : as.length ≤ 40000)
    (hs : ∀ a ∈ as, ∃ ρ1 js, TgD K g (wipeD ρ vs) (enc a) ρ1 js ∧ (∀ j ∈ js, j ∈ vs) ∧ EvTD K tt ρ1 (f a) ∧ (f a = true → EvD K te ρ1 (e a))) : EvN K (tLc wi g tt te vs) ρ ((as.filter f).map e) := fun B F0 F σ H S Q q => by
  refine hi B F0 F σ H S _ fun J H1 e1 jd Dl hD => ?_
  have S1 := S.mono e1
  refine ⟨fun i m H' => m = as.length - i ∧ i ≤ as.length ∧ ∃ xs, H' Dl = some (.lst xs) ∧ Ex H1 H' ∧ RpAll K (hide (Dl :: F) H') xs (((as.take i).filter f).map e), ⟨as.length, by simp, Nat.zero_le _, [], upd_same, Ex.new hD, by rw [List.take_zero]; exact .nil⟩, ?_⟩
  rintro i m H' ⟨rfl, hi', xs, hx, eH, rx⟩
  have S' : ST K B F0 (Dl :: F) σ H' ρ := S1.more hD eH hx
  have eG : Ex (hide F H1) (hide (Dl :: F) H') := hide_more hD eH
  obtain ⟨go, stop, _⟩ := jd H' (eG.trans hide_sub)
  rw [List.length_map] at go stop
  by_cases hlt : i < as.length
  · refine .inr ⟨go i hlt, fun H2 => ∃ xs, H2 Dl = some (.lst xs) ∧ Ex H1 H2 ∧ RpAll K (hide (Dl :: F) H2) xs (((as.take (i + 1)).filter f).map e), fun H2 ⟨ys, h1, h2, h3⟩ => ⟨as.length - (i + 1), by omega, rfl, hlt, ys, h1, h2, h3⟩, fun x H'' y => ?_⟩
    have hd' : (as.map enc)[i]? = some (enc as[i]) := by rw [List.getElem?_map, List.getElem?_eq_getElem hlt]; rfl
    obtain ⟨e2, S2, r2⟩ := jd.yield S' eG hd' y
    have et : as.take (i + 1) = as.take i ++ [as[i]] := List.take_succ_eq_append_getElem hlt
    obtain ⟨ρ1, js, tg, hj, ht, he⟩ := hs as[i] (List.getElem_mem hlt)
    refine tg B F0 (Dl :: F) _ H'' x (S2.wipe vs) r2 _ fun σ3 S3 ⟨wl, wk⟩ => ⟨wipe_same wl wk hj, ?_⟩
    refine ht B F0 (Dl :: F) σ3 H'' S3 _ fun H3 e3 => ?_
    have rx3 : RpAll K (hide (Dl :: F) H3) xs (((as.take i).filter f).map e) := rx.mono (hide_mono (e2.trans e3))
    have hx3 := e3 _ _ (e2 _ _ hx)
    cases hf : f as[i] with
    | true =>
      show te σ3 H3 _
      refine he hf B F0 (Dl :: F) σ3 H3 (S3.mono e3) _ fun v H4 e4 r4 => ?_
      refine ⟨xs, e4 _ _ hx3, sz_lt ?_, xs ++ [v], upd_same, Ex.mut (((eH.trans e2).trans e3).trans e4) hD, ?_⟩
      · rw [rx.len, List.length_map]
        have h1 := List.length_filter_le f (as.take i)
        rw [List.length_take] at h1
        omega
      · rw [et, List.filter_append, List.map_append, List.filter_cons, hf]
        refine RpAll.mono (hide_in List.mem_cons_self) ?_
        exact (rx3.mono (hide_mono e4)).snoc r4
    | false =>
      rw [if_neg Bool.false_ne_true]
      refine ⟨xs, hx3, (eH.trans e2).trans e3, ?_⟩
      rw [et, List.filter_append, List.filter_cons, hf]
      simpa using rx3
  · have ei : i = as.length := by omega
    subst ei
    refine .inl ⟨stop, ?_⟩
    rw [List.take_length] at rx
    exact q Dl xs H' (fresh_back e1 hD) (e1.trans eH) hx rx
end
/-- in a comprehension's block, whichever -/
def wEB (X : Cx) (scope : Scope) (e : Expr) : TE := fun σ H Q => ∀ (s : Shared) (H0 : Hp) (C : Addr) (cl : List (Str × Addr)) (fp : List Addr), wE (X.blk s H0 scope (compEnvC scope cl C X.env) fp) e σ H Q
def wTsB (X : Cx) (scope : Scope) (ifs : List Expr) : TT := fun σ H Q => ∀ (s : Shared) (H0 : Hp) (C : Addr) (cl : List (Str × Addr)) (fp : List Addr), wTs (X.blk s H0 scope (compEnvC scope cl C X.env) fp) ifs σ H Q
/-- ρ by the block's judgements -/
def EB (X : Cx) (scope : Scope) (e : Expr) (ρ : List Slot) (d : D) : Prop := ∀ (s : Shared) (H0 : Hp) (C : Addr) (cl : List (Str × Addr)) (fp : List Addr), EE (X.blk s H0 scope (compEnvC scope cl C X.env) fp) e ρ d
def EBT (X : Cx) (scope : Scope) (ifs : List Expr) (ρ : List Slot) (b : Bool) : Prop := ∀ (s : Shared) (H0 : Hp) (C : Addr) (cl : List (Str × Addr)) (fp : List Addr), ETs (X.blk s H0 scope (compEnvC scope cl C X.env) fp) ifs ρ b
section
variable {X : Cx} {ρ : List Slot}
theorem EB.ev {scope : Scope} {e : Expr} {d : D} (h : EB X scope e ρ d) : EvD X.K (wEB X scope e) ρ d := fun B F0 F σ H S Q q s H0 C cl fp => (h s H0 C cl fp).ev B F0 F σ H S Q q
theorem EBT.ev {scope : Scope} {ifs : List Expr} {b : Bool} (h : EBT X scope ifs ρ b) : EvTD X.K (wTsB X scope ifs) ρ b := fun B F0 F σ H S Q q s H0 C cl fp => (h s H0 C cl fp).ev B F0 F σ H S Q q
theorem pe_wB {scope : Scope} {e : Expr} (s : Shared) (H0 : Hp) (C : Addr) (cl : List (Str × Addr)) (fp : List Addr) : PE (X.blk s H0 scope (compEnvC scope cl C X.env) fp) e (wEB X scope e) := ⟨fun pins t σ H Q I h => h s H0 C cl fp pins t I⟩
theorem pts_wB {scope : Scope} {ifs : List Expr} (s : Shared) (H0 : Hp) (C : Addr) (cl : List (Str × Addr)) (fp : List Addr) : PTs (X.blk s H0 scope (compEnvC scope cl C X.env) fp) ifs (wTsB X scope ifs) := ⟨fun pins t σ H Q I h => h s H0 C cl fp pins t I⟩
theorem ebt_nil {scope : Scope} : EBT X scope [] ρ true := fun s H0 C cl fp => .of pts_nil fun B F0 F σ H S Q q => q H (Ex.refl H)
theorem ebt_one {scope : Scope} {c : Expr} {b : Bool} (h : ∀ (s : Shared) (H0 : Hp) (C : Addr) (cl : List (Str × Addr)) (fp : List Addr), ET (X.blk s H0 scope (compEnvC scope cl C X.env) fp) c ρ b) : EBT X scope [c] ρ b := fun s H0 C cl fp => .of (pts_one pt_w) (h s H0 C cl fp).ev
variable {elt tg iter : Expr} {ifs : List Expr} {scope : Scope} {pos : Pos} {g : TG}
/-- [elt for tg in iter if ..]: as what it walks, f which are kept, e what is made of them -/
theorem en_lc {α : Type} {as : List α} {f : α → Bool} {e : α → D} (enc : α → D) {own : List (Str × Nat)} {N : List Str} (nd : N.Nodup) (ok : BlkOk X.N X.env.scope scope own) (hi : IE X tg iter ρ (as.map enc)) (hl : as.length ≤ 40000)
    (hg : ∀ (s : Shared) (H : Hp) (C : Addr) (cl : List (Str × Addr)) (fp : List Addr), PG (X.blk s H scope (compEnvC scope cl C X.env) fp) tg g)
    (hs : ∀ a ∈ as, ∃ ρ1 js, TgD X.K g (wipeD ρ (own.map (·.2))) (enc a) ρ1 js ∧ (∀ j ∈ js, j ∈ own.map (·.2)) ∧ EBT X scope ifs ρ1 (f a) ∧ (f a = true → EB X scope elt ρ1 (e a)))
    (hX : X.N = N := by rfl) (hc : X.calm = true := by rfl) (hf : ∀ x, foldedSetIterable iter X.env x = pure x := by intro _; rfl) : EN X (.ListComp elt [⟨tg, iter, ifs, 0⟩] scope pos) ρ ((as.filter f).map e) :=
  .of (pe_lc (tt := wTsB X scope ifs) (te := wEB X scope elt) hc (hX ▸ nd) pi_w ok hg (fun s H C cl fp => pts_wB s H C cl fp) (fun s H C cl fp => pe_wB s H C cl fp) hf)
    (evn_lc as enc f e hi.ev hl fun a ha => by
      obtain ⟨ρ1, js, h1, h2, h3, h4⟩ := hs a ha
      exact ⟨ρ1, js, h1, h2, h3.ev, fun z => (h4 z).ev⟩)
theorem filterT {α : Type} : ∀ as : List α, as.filter (fun _ => true) = as
  | [] => rfl
  | a :: as => by rw [List.filter_cons, if_pos rfl, filterT as]
/-- a block's own name as target -/
theorem pg_blk {i : Nat} {x : Str} {px : Pos} (nd : X.N.Nodup) (hi : X.N[i]? = some x) (hx : Loc (relS scope X.env.scope) x) (hf : (scope.names.lookup x == some .cell) = true ∨ (relS scope X.env.scope).names.lookup x = some .local) :
    ∀ (s : Shared) (H : Hp) (C : Addr) (cl : List (Str × Addr)) (fp : List Addr), PG (X.blk s H scope (compEnvC scope cl C X.env) fp) (.Name x px) (gName i) := fun s H C cl fp => pg_name (X := X.blk s H scope (compEnvC scope cl C X.env) fp) nd hi hx hf
/-- .. its target one name, no test -/
theorem en_lc1 {α : Type} {as : List α} {e : α → D} (enc : α → D) (i : Nat) {x : Str} {px : Pos} {N : List Str} (nd : N.Nodup) (ok : BlkOk X.N X.env.scope scope [(x, i)]) (hi : IE X (.Name x px) iter ρ (as.map enc)) (hl : as.length ≤ 40000)
    (hs : ∀ a ∈ as, EB X scope elt (ρ.set i (.dat (enc a))) (e a))
    (hX : X.N = N := by rfl) (hc : X.calm = true := by rfl) (hNi : X.N[i]? = some x := by rfl) (hx : Loc (relS scope X.env.scope) x := by first | exact Or.inl rfl | exact Or.inr rfl)
    (hb : (scope.names.lookup x == some .cell) = true ∨ (relS scope X.env.scope).names.lookup x = some .local := by first | exact Or.inl rfl | exact Or.inr rfl)
    (hf : ∀ x, foldedSetIterable iter X.env x = pure x := by intro _; rfl) : EN X (.ListComp elt [⟨.Name x px, iter, [], 0⟩] scope pos) ρ (as.map e) := by
  have h := en_lc (pos := pos) (elt := elt) (ifs := []) (as := as) (f := fun _ => true) (e := e) enc nd ok hi hl (pg_blk (hX ▸ nd) hNi hx hb) (fun a ha => ⟨_, _, tg_name, fun j hj => hj, ebt_nil, fun _ => by
    have q := hs a ha
    rw [← List.set_set (a := .no)] at q
    exact q⟩) hX hc hf
  rw [filterT] at h
  exact h
/-- .. its target one name, one test -/
theorem en_lcIf {α : Type} {as : List α} {f : α → Bool} {e : α → D} (enc : α → D) (i : Nat) {x : Str} {px : Pos} {c : Expr} {N : List Str} (nd : N.Nodup) (ok : BlkOk X.N X.env.scope scope [(x, i)]) (hi : IE X (.Name x px) iter ρ (as.map enc)) (hl : as.length ≤ 40000)
    (hs : ∀ a ∈ as, (∀ (s : Shared) (H : Hp) (C : Addr) (cl : List (Str × Addr)) (fp : List Addr), ET (X.blk s H scope (compEnvC scope cl C X.env) fp) c (ρ.set i (.dat (enc a))) (f a)) ∧ EB X scope elt (ρ.set i (.dat (enc a))) (e a))
    (hX : X.N = N := by rfl) (hc : X.calm = true := by rfl) (hNi : X.N[i]? = some x := by rfl) (hx : Loc (relS scope X.env.scope) x := by first | exact Or.inl rfl | exact Or.inr rfl)
    (hb : (scope.names.lookup x == some .cell) = true ∨ (relS scope X.env.scope).names.lookup x = some .local := by first | exact Or.inl rfl | exact Or.inr rfl)
    (hf : ∀ x, foldedSetIterable iter X.env x = pure x := by intro _; rfl) : EN X (.ListComp elt [⟨.Name x px, iter, [c], 0⟩] scope pos) ρ ((as.filter f).map e) :=
  en_lc (pos := pos) (elt := elt) (ifs := [c]) enc nd ok hi hl (pg_blk (hX ▸ nd) hNi hx hb) (fun a ha => ⟨_, _, tg_name, fun j hj => hj, ebt_one (by
    have q := (hs a ha).1
    rw [← List.set_set (a := .no)] at q
    exact q), fun _ => by
    have q := (hs a ha).2
    rw [← List.set_set (a := .no)] at q
    exact q⟩) hX hc hf

/-! ### what is walked -/
theorem ie_list {ds : List D} (h : EE X iter ρ (.list ds)) : IE X tg iter ρ ds := .of (pi_list pe_w) (it_list h.ev)
theorem ie_tup {ds : List D} (h : EE X iter ρ (.tup ds)) : IE X tg iter ρ ds := .of (pi_tup pe_w) (it_tup h.ev)
theorem ie_rev {e : Expr} {p : Pos} {ds : List D} (hm : X.mg "reversed" = none) (h : EE X e ρ (.list ds)) (hg : Gl X "reversed" := by rfl) (hs : notStar e = true := by rfl) : IE X tg (.Call (.Name "reversed" p) [e] [] pos) ρ ds.reverse :=
  .of (pi_reversed hg hm (pa_cons pe_w pa_nil (star_cons hs)) (star_one hs)) (it_rev (evad_cons h.ev evad_nil))
theorem ie_enum {e : Expr} {p tpos : Pos} {elts : List Expr} {kk : Nat} {ds : List D} (hm : X.mg "enumerate" = none) (h : EE X e ρ (.list ds)) (hg : Gl X "enumerate" := by rfl) (hs : notStar e = true := by rfl) :
    IE X (.Tuple elts kk tpos) (.Call (.Name "enumerate" p) [e] [] pos) ρ ((List.range ds.length).map fun (i : Nat) => .tup [.int (i : Int), ds.getD i .non]) :=
  .of (pi_enum hg hm (pa_cons pe_w pa_nil (star_cons hs)) (star_one hs)) (it_enum (evad_cons h.ev evad_nil))
theorem ie_rng1 {e : Expr} {p : Pos} {n : Int} (hm : X.mg "range" = none) (h : EE X e ρ (.int n)) (hn : n ≤ 100000) (h0 : -100000 ≤ n) (hg : Gl X "range" := by rfl) (hs : notStar e = true := by rfl) :
    IE X tg (.Call (.Name "range" p) [e] [] pos) ρ ((List.range n.toNat).map fun (i : Nat) => .int (i : Int)) := .of (pi_range1 hg hm (pa_cons pe_w pa_nil (star_cons hs)) (star_one hs)) (it_rng1 (evad_cons h.ev evad_nil) hn h0)
theorem ie_rng2 {a b : Expr} {p : Pos} {lo n : Int} (hm : X.mg "range" = none) (ha : EE X a ρ (.int lo)) (hb : EE X b ρ (.int n)) (hl : -100000 ≤ lo ∧ lo ≤ 100000) (hn : -100000 ≤ n ∧ n ≤ 100000) (hg : Gl X "range" := by rfl)
    (hs : notStar a = true := by rfl) (hs2 : notStar b = true := by rfl) :
    IE X tg (.Call (.Name "range" p) [a, b] [] pos) ρ ((List.range (n - lo).toNat).map fun (i : Nat) => .int (lo + (i : Int))) :=
  .of (pi_range2 hg hm (pa_cons pe_w (pa_cons pe_w pa_nil (star_cons hs2)) (star_cons hs)) (by rw [star_cons hs, star_one hs2]) (star_one hs2)) (it_rng2 (evad_cons ha.ev (evad_cons hb.ev evad_nil)) hl hn)
theorem IE.to {ds es : List D} (h : IE X tg iter ρ ds) (e : ds = es) : IE X tg iter ρ es := e ▸ h

/-! ### statements -/
variable {ρ1 ρ2 : List Slot} {o : Oc} {d : D} {ds es : List D} {st : Stmt} {rest a b body : List Stmt} {e c : Expr} {bb : Bool} {px p2 : Pos} {x : Str}
theorem sds_nil : SDs X [] ρ (.nx ρ) := .of pss_nil sv_next
theorem sds_cons (h1 : SD X st ρ (.nx ρ1)) (h2 : SDs X rest ρ1 o) : SDs X (st :: rest) ρ o := .of (pss_cons ps_w pss_w) (sv_seq h1.ev h2.ev)
theorem sds_ret (h1 : SD X st ρ (.rt d)) : SDs X (st :: rest) ρ (.rt d) := .of (pss_cons ps_w pss_w) (sv_seqR h1.ev)
theorem sds_one (h1 : SD X st ρ o) : SDs X [st] ρ o := .of (pss_one ps_w) h1.ev
theorem sds_to {o' : Oc} (h : SDs X rest ρ o) (q : o = o') : SDs X rest ρ o' := q ▸ h
theorem sds_from (h : SDs X rest ρ1 o) (q : ρ1 = ρ) : SDs X rest ρ o := q ▸ h
theorem sd_to {o' : Oc} (h : SD X st ρ o) (q : o = o') : SD X st ρ o' := q ▸ h
theorem sds_freeze (i : Nat) (hi : ρ[i]? = some (.own ds) := by rfl) (h : SDs X rest (ρ.set i (.dat (.list ds))) o) : SDs X rest ρ o := ⟨sv_freeze hi h.ev⟩
theorem sd_set {i : Nat} {N : List Str} (nd : N.Nodup) (he : EE X e ρ d) (hi : X.N[i]? = some x := by rfl) (hx : Loc X.env.scope x := by first | exact Or.inl rfl | exact Or.inr rfl) (hs : swapsWith e (some (.Name x px)) pos.line X.env = pure false := by rfl)
    (hf : X.fn x = true ∨ X.env.scope.names.lookup x = some .local := by first | exact .inl rfl | exact .inr rfl | assumption) (hX : X.N = N := by rfl) : SD X (.Assign [.Name x px] e pos) ρ (.nx (ρ.set i (.dat d))) := .of (ps_set (hX ▸ nd) hi hx pe_w hs hf) (sv_asg he.ev tg_name)
theorem sd_setN {i : Nat} {N : List Str} (nd : N.Nodup) (he : EN X e ρ ds) (hi : X.N[i]? = some x := by rfl) (hx : Loc X.env.scope x := by first | exact Or.inl rfl | exact Or.inr rfl) (hs : swapsWith e (some (.Name x px)) pos.line X.env = pure false := by rfl)
    (hf : X.fn x = true ∨ X.env.scope.names.lookup x = some .local := by first | exact .inl rfl | exact .inr rfl | assumption) (hX : X.N = N := by rfl) : SD X (.Assign [.Name x px] e pos) ρ (.nx (ρ.set i (.own ds))) := .of (ps_set (hX ▸ nd) hi hx pe_w hs hf) (sv_asgN he.ev)
/-- name = [..] on one line, the name a plain local: the list one's own -/
theorem sd_setLc {α : Type} {i : Nat} {as : List α} {f : α → Bool} {e : α → D} (enc : α → D) {own : List (Str × Nat)} {N : List Str} (nd : N.Nodup) {y : Str} {py spos : Pos} (ok : BlkOk X.N X.env.scope scope own) (hi : IE X tg iter ρ (as.map enc)) (hl : as.length ≤ 40000)
    (hg : ∀ (s : Shared) (H : Hp) (C : Addr) (cl : List (Str × Addr)) (fp : List Addr), PG (X.blk s H scope (compEnvC scope cl C X.env) fp) tg g)
    (hs : ∀ a ∈ as, ∃ ρ1 js, TgD X.K g (wipeD ρ (own.map (·.2))) (enc a) ρ1 js ∧ (∀ j ∈ js, j ∈ own.map (·.2)) ∧ EBT X scope ifs ρ1 (f a) ∧ (f a = true → EB X scope elt ρ1 (e a)))
    (hX : X.N = N := by rfl) (hc : X.calm = true := by rfl) (hy : X.N[i]? = some y := by rfl) (hk : X.env.scope.kind = .function := by rfl) (hyl : X.env.scope.names.lookup y = some .local := by rfl) (hpl : (py.line == pos.line) = true := by rfl)
    (hsn : (scope.names.any fun (n, k) => n == y && (k == .local || k == .cell)) = false := by rfl)
    (hf : ∀ x, foldedSetIterable iter X.env x = pure x := by intro _; rfl) : SD X (.Assign [.Name y py] (.ListComp elt [⟨tg, iter, ifs, 0⟩] scope pos) spos) ρ (.nx (ρ.set i (.own ((as.filter f).map e)))) :=
  .of (ps_setLc (tt := wTsB X scope ifs) (te := wEB X scope elt) hc (hX ▸ nd) hy hyl (sw_true hk hyl hpl hsn) pi_w ok hg (fun s H C cl fp => pts_wB s H C cl fp) (fun s H C cl fp => pe_wB s H C cl fp) hf)
    (sv_asgN (evn_lc as enc f e hi.ev hl fun a ha => by
      obtain ⟨ρ1, js, h1, h2, h3, h4⟩ := hs a ha
      exact ⟨ρ1, js, h1, h2, h3.ev, fun z => (h4 z).ev⟩))
theorem sd_setLc1 {α : Type} {i : Nat} {as : List α} {e : α → D} (enc : α → D) (j : Nat) {N : List Str} (nd : N.Nodup) {y : Str} {py spos : Pos} (ok : BlkOk X.N X.env.scope scope [(x, j)]) (hi : IE X (.Name x px) iter ρ (as.map enc)) (hl : as.length ≤ 40000)
    (hs : ∀ a ∈ as, EB X scope elt (ρ.set j (.dat (enc a))) (e a))
    (hX : X.N = N := by rfl) (hc : X.calm = true := by rfl) (hy : X.N[i]? = some y := by rfl) (hk : X.env.scope.kind = .function := by rfl) (hyl : X.env.scope.names.lookup y = some .local := by rfl) (hpl : (py.line == pos.line) = true := by rfl)
    (hsn : (scope.names.any fun (n, k) => n == y && (k == .local || k == .cell)) = false := by rfl)
    (hNi : X.N[j]? = some x := by rfl) (hx : Loc (relS scope X.env.scope) x := by first | exact Or.inl rfl | exact Or.inr rfl)
    (hb : (scope.names.lookup x == some .cell) = true ∨ (relS scope X.env.scope).names.lookup x = some .local := by first | exact Or.inl rfl | exact Or.inr rfl)
    (hf : ∀ x, foldedSetIterable iter X.env x = pure x := by intro _; rfl) : SD X (.Assign [.Name y py] (.ListComp elt [⟨.Name x px, iter, [], 0⟩] scope pos) spos) ρ (.nx (ρ.set i (.own (as.map e)))) := by
  have h := sd_setLc (pos := pos) (elt := elt) (ifs := []) (py := py) (spos := spos) (i := i) (as := as) (f := fun _ => true) (e := e) enc nd ok hi hl (pg_blk (hX ▸ nd) hNi hx hb) (fun a ha => ⟨_, _, tg_name, fun j hj => hj, ebt_nil, fun _ => by
    have q := hs a ha
    rw [← List.set_set (a := .no)] at q
    exact q⟩) hX hc hy hk hyl hpl hsn hf
  rw [filterT] at h
  exact h
/-- any target -/
theorem sd_asg {js : List Nat} (he : EE X e ρ d) (hg : PG X tg g) (ht : TgD X.K g ρ d ρ1 js) (hs : swapsWithSole [tg] e pos.line X.env = pure false := by rfl) (hw : swappedStores [tg] e X.env = pure none := by rfl)
    (h1 : (assignEach [tg] X.env).map (·.2) = [assign tg X.env] := by rfl) : SD X (.Assign [tg] e pos) ρ (.nx ρ1) := .of (ps_asg pe_w hg hs hw h1) (sv_asg he.ev ht)
/-- xs[j] = e -/
theorem sd_sub {i : Nat} {j : Nat} {n : Int} {ie : Expr} {ps : Pos} (he : EE X e ρ d) (hi : EE X ie ρ (.int n)) (en : n = (j : Int)) (hl : j < ds.length) (ho : ρ[i]? = some (.own ds) := by rfl)
    (hN : X.N[i]? = some x := by rfl) (hv : Vis X.env.scope x := by first | exact Or.inl rfl | exact Or.inr (Or.inl rfl) | exact Or.inr (Or.inr rfl))
    (hd : (x == ("__debug__" : Str)) = false := by decide) (hcd : (x == ("__classdict__" : Str)) = false := by decide)
    (hs : swapsWithSole [.Subscript (.Name x px) ie ps] e pos.line X.env = pure false := by rfl) (hw : swappedStores [.Subscript (.Name x px) ie ps] e X.env = pure none := by rfl)
    (h1 : (assignEach [.Subscript (.Name x px) ie ps] X.env).map (·.2) = [assign (.Subscript (.Name x px) ie ps) X.env] := by rfl)
    (ha : ∀ v, assign (.Subscript (.Name x px) ie ps) X.env v = (do
      let ov ← holding [v] (eval (.Name x px) X.env)
      let iv ← holding [v, ov] (eval ie X.env)
      standAt ps
      holding [v, ov, iv] (setItem ov iv v)
      release [v, ov, iv] []) := by intro _; rfl) : SD X (.Assign [.Subscript (.Name x px) ie ps] e pos) ρ (.nx (ρ.set i (.own (ds.set j d)))) :=
  .of (ps_asg pe_w (pg_sub (pe_var hN hv hd hcd) pe_w set_list ha) hs hw h1) (sv_setL ho he.ev hi.ev en hl)
/-- xs.append(e) -/
theorem sd_app {i : Nat} {apos cpos : Pos} (he : EE X e ρ d) (hl : ds.length < 100000) (ho : ρ[i]? = some (.own ds) := by rfl)
    (hN : X.N[i]? = some x := by rfl) (hv : Vis X.env.scope x := by first | exact Or.inl rfl | exact Or.inr (Or.inl rfl) | exact Or.inr (Or.inr rfl))
    (hd : (x == ("__debug__" : Str)) = false := by decide) (hcd : (x == ("__classdict__" : Str)) = false := by decide)
    (hline : (apos.endLine == cpos.line) = true := by rfl) (hs : notStar e = true := by rfl)
    (hsw : swapsWith (.Call (.Attribute (.Name x px) "append" apos) [e] [] cpos) none pos.line X.env = pure false := by rfl) : SD X (.Expr (.Call (.Attribute (.Name x px) "append" apos) [e] [] cpos) pos) ρ (.nx (ρ.set i (.own (ds ++ [d])))) :=
  .of (ps_expr (pe_bm PySem.F.plainAttrs_list PySem.F.slot_list_append PySem.F.type_list_append mt_append (pe_var hN hv hd hcd) (pa_cons pe_w pa_nil (star_cons hs)) (base_of rfl) (few_one hs) hline (star_cons hs)) hsw) (sv_app ho he.ev hl)
/-- xs.extend(e) -/
theorem sd_ext {i : Nat} {apos cpos : Pos} (he : EE X e ρ (.list es)) (hl : ds.length + es.length ≤ 100000) (ho : ρ[i]? = some (.own ds) := by rfl)
    (hN : X.N[i]? = some x := by rfl) (hv : Vis X.env.scope x := by first | exact Or.inl rfl | exact Or.inr (Or.inl rfl) | exact Or.inr (Or.inr rfl))
    (hd : (x == ("__debug__" : Str)) = false := by decide) (hcd : (x == ("__classdict__" : Str)) = false := by decide)
    (hline : (apos.endLine == cpos.line) = true := by rfl) (hs : notStar e = true := by rfl)
    (hsw : swapsWith (.Call (.Attribute (.Name x px) "extend" apos) [e] [] cpos) none pos.line X.env = pure false := by rfl) : SD X (.Expr (.Call (.Attribute (.Name x px) "extend" apos) [e] [] cpos) pos) ρ (.nx (ρ.set i (.own (ds ++ es)))) :=
  .of (ps_expr (pe_bm PySem.F.plainAttrs_list PySem.F.slot_list_extend PySem.F.type_list_extend mt_extend (pe_var hN hv hd hcd) (pa_cons pe_w pa_nil (star_cons hs)) (base_of rfl) (few_one hs) hline (star_cons hs)) hsw) (sv_ext ho he.ev hl)
theorem sd_ret (he : EE X e ρ d) : SD X (.Return (some e) pos) ρ (.rt d) := .of (ps_ret pe_w) (sv_ret he.ev)
theorem sd_if (h : ET X c ρ bb) (h1 : bb = true → SDs X a ρ o) (h2 : bb = false → SDs X b ρ o) : SD X (.If c a b pos) ρ o := .of (ps_if pt_w pss_w pss_w) (sv_if h.ev (fun z => (h1 z).ev) (fun z => (h2 z).ev))
theorem sd_ifT (h : ET X c ρ true) (h1 : SDs X a ρ o) : SD X (.If c a b pos) ρ o := sd_if h (fun _ => h1) fun z => nomatch z
theorem sd_ifF (h : ET X c ρ false) (h1 : SDs X b ρ o) : SD X (.If c a b pos) ρ o := sd_if h (fun z => nomatch z) fun _ => h1
section
variable {α : Type}
/-- for, any target -/
theorem sd_for {as : List α} {P : List α → List Slot} (enc : α → D) (hg : PG X tg g) (hi : IE X tg iter ρ (as.map enc)) (h0 : P [] = ρ)
    (hs : ∀ pre a post, as = pre ++ a :: post → ∃ ρ1 js, TgD X.K g (P pre) (enc a) ρ1 js ∧ SDs X body ρ1 (.nx (P (pre ++ [a])))) (hp : PassesOwn (model X.prog X.w) X.A X.env X.xe := by exact PassesOwn.never) (hc : X.calm = true := by rfl)
    (hf : ∀ x, foldedSetIterable iter X.env x = pure x := by intro _; rfl) : SD X (.For tg iter body [] pos) ρ (.nx (P as)) :=
  .of (ps_for hp hc pi_w hg pss_w hf) (sv_for as enc P hi.ev h0 fun pre a post e => by
    obtain ⟨ρ1, js, h1, h2⟩ := hs pre a post e
    exact ⟨ρ1, js, h1, h2.ev⟩)
theorem sd_forR (pre0 : List α) (a0 : α) (post0 : List α) (enc : α → D) (P : List α → List Slot) (hg : PG X tg g) (hi : IE X tg iter ρ ((pre0 ++ a0 :: post0).map enc)) (h0 : P [] = ρ)
    (hs : ∀ pre a post, pre0 = pre ++ a :: post → ∃ ρ1 js, TgD X.K g (P pre) (enc a) ρ1 js ∧ SDs X body ρ1 (.nx (P (pre ++ [a]))))
    (hr : ∃ ρ1 js, TgD X.K g (P pre0) (enc a0) ρ1 js ∧ SDs X body ρ1 (.rt d)) (hp : PassesOwn (model X.prog X.w) X.A X.env X.xe := by exact PassesOwn.never) (hc : X.calm = true := by rfl)
    (hf : ∀ x, foldedSetIterable iter X.env x = pure x := by intro _; rfl) : SD X (.For tg iter body [] pos) ρ (.rt d) :=
  .of (ps_for hp hc pi_w hg pss_w hf) (sv_forR pre0 a0 post0 enc P hi.ev h0 (fun pre a post e => by
    obtain ⟨ρ1, js, h1, h2⟩ := hs pre a post e
    exact ⟨ρ1, js, h1, h2.ev⟩) (by
    obtain ⟨ρ1, js, h1, h2⟩ := hr
    exact ⟨ρ1, js, h1, h2.ev⟩))
/-- for x in .. -/
theorem sd_for1 {as : List α} {P : List α → List Slot} (i : Nat) (enc : α → D) {N : List Str} (nd : N.Nodup) (hi : IE X (.Name x px) iter ρ (as.map enc)) (h0 : P [] = ρ)
    (hs : ∀ pre a post, as = pre ++ a :: post → SDs X body ((P pre).set i (.dat (enc a))) (.nx (P (pre ++ [a])))) (hX : X.N = N := by rfl) (hp : PassesOwn (model X.prog X.w) X.A X.env X.xe := by exact PassesOwn.never) (hc : X.calm = true := by rfl)
    (hNi : X.N[i]? = some x := by rfl) (hx : Loc X.env.scope x := by first | exact Or.inl rfl | exact Or.inr rfl) (hb : X.fn x = true ∨ X.env.scope.names.lookup x = some .local := by first | exact .inl rfl | exact .inr rfl)
    (hf : ∀ x, foldedSetIterable iter X.env x = pure x := by intro _; rfl) : SD X (.For (.Name x px) iter body [] pos) ρ (.nx (P as)) :=
  sd_for enc (pg_name (hX ▸ nd) hNi hx hb) hi h0 (fun pre a post e => ⟨_, _, tg_name, hs pre a post e⟩) hp hc hf
theorem sd_for1R (i : Nat) (pre0 : List α) (a0 : α) (post0 : List α) (enc : α → D) (P : List α → List Slot) {N : List Str} (nd : N.Nodup) (hi : IE X (.Name x px) iter ρ ((pre0 ++ a0 :: post0).map enc)) (h0 : P [] = ρ)
    (hs : ∀ pre a post, pre0 = pre ++ a :: post → SDs X body ((P pre).set i (.dat (enc a))) (.nx (P (pre ++ [a]))))
    (hr : SDs X body ((P pre0).set i (.dat (enc a0))) (.rt d)) (hX : X.N = N := by rfl) (hp : PassesOwn (model X.prog X.w) X.A X.env X.xe := by exact PassesOwn.never) (hc : X.calm = true := by rfl)
    (hNi : X.N[i]? = some x := by rfl) (hx : Loc X.env.scope x := by first | exact Or.inl rfl | exact Or.inr rfl) (hb : X.fn x = true ∨ X.env.scope.names.lookup x = some .local := by first | exact .inl rfl | exact .inr rfl)
    (hf : ∀ x, foldedSetIterable iter X.env x = pure x := by intro _; rfl) : SD X (.For (.Name x px) iter body [] pos) ρ (.rt d) :=
  sd_forR pre0 a0 post0 enc P (pg_name (hX ▸ nd) hNi hx hb) hi h0 (fun pre a post e => ⟨_, _, tg_name, hs pre a post e⟩) ⟨_, _, tg_name, hr⟩ hp hc hf
end
theorem sd_while {P : Nat → List Slot} {n : Nat} (h0 : P 0 = ρ) (hs : ∀ i, i < n → ET X c (P i) true ∧ SDs X body (P i) (.nx (P (i + 1)))) (hd : ET X c (P n) false) (hp : PassesOwn (model X.prog X.w) X.A X.env X.xe := by exact PassesOwn.never) : SD X (.While c body [] pos) ρ (.nx (P n)) :=
  .of (ps_while hp pt_w pss_w) (sv_while P n h0 (fun i hi => ⟨(hs i hi).1.ev, (hs i hi).2.ev⟩) hd.ev)
end

/-! ### defs -/
def init (N : List Str) (ds : List D) : List Slot := ds.map .dat ++ List.replicate (N.length - ds.length) .no
section
variable {P : Program} {w : World} {K : PySem.W.Frag} {mg : Str → Option Value} {base : Heap}
theorem st_init {N : List Str} {H : Hp} {F : List Addr} {vs : List V} {ds : List D} (dom : ∀ a ∈ F, H a ≠ none) (r : RpAll K (hide F H) vs ds) : ST K H F F (L2.start N vs) H (init N ds) := by
  have hlen := r.len
  refine ⟨⟨Ex.refl H, fun _ h => h, fun _ h => .inl h, dom, dom⟩, by simp [init, L2.start, hlen], fun i s q => ?_, fun i j d1 d2 p _ q1 _ _ => ?_⟩
  · unfold init at q
    unfold L2.start
    by_cases hi : i < ds.length
    · rw [List.getElem?_append_left (by simpa using hi), List.getElem?_map, List.getElem?_eq_getElem hi] at q
      cases q
      obtain ⟨v, e, rv⟩ := r.get (List.getElem?_eq_getElem hi)
      exact ⟨v, by rw [List.getElem?_append_left (by simpa [hlen] using hi), List.getElem?_map, e]; rfl, rv⟩
    · rw [List.getElem?_append_right (by simpa using hi), List.getElem?_replicate] at q
      split at q
      · cases q
        trivial
      · cases q
  · unfold init at q1
    by_cases hi : i < ds.length
    · rw [List.getElem?_append_left (by simpa using hi), List.getElem?_map, List.getElem?_eq_getElem hi] at q1
      cases q1
    · rw [List.getElem?_append_right (by simpa using hi), List.getElem?_replicate] at q1
      split at q1 <;> cases q1
/-- THE RULE: a def by its body, by data -/
theorem fn_data {x qual : Str} {st : Stmt} {f : Addr} {fd : FuncData} {N ps : List Str} {k : Nat} {R : List D → D → Prop} (F : Fun K x qual st f fd) (S : FnScope N ps (defScope st)) (len : ∀ ds d, R ds d → ds.length = ps.length)
    (body : ∀ (cdv : Value) (A : Around) (outer : List Env) (s : Shared) (H : Hp) (E : XK), Room k (A.deeper (envOfC qual (defScope st) s.heap.objs.size f cdv)) → ∀ ds d, R ds d →
      SDs (cxOf CX0 P w K mg base N qual (defScope st) f cdv A outer s H E).nox (defBody st) (init N ds) (.rt d)) : FnOk P w K mg base CX0 (k + 1) f fd ps (spD K R) := by
  refine F.ok S (fun vs H Q E h => ?_) (fun cdv A outer s H vs Q E hr h => ?_)
  · obtain ⟨F, ds, d, _, r, hR, _⟩ := h
    rw [r.len]
    exact len ds d hR
  · obtain ⟨Fr, ds, d, dom, r, hR, q⟩ := h
    refine ⟨_, pss_w, (body cdv A outer s H E hr ds d hR).ev H Fr Fr (L2.start N vs) H (st_init dom r) _ fun v H2 e r => q v H2 e r⟩
end
end DL

set_option maxRecDepth 100000
set_option maxHeartbeats 4000000
/-! More of the same: less told behind a statement; items, slices, joined texts as plain functions. -/
namespace DL
open PySem PySem.Spec PyProof.Rows L2 Evl
theorem sv_less {K : PySem.W.Frag} {t : TS} {ρ ρ1 : List Slot} (i : Nat) (h : SvD K t ρ (.nx ρ1)) : SvD K t ρ (.nx (ρ1.set i .no)) := fun B F0 F σ H S De k => h B F0 F σ H S De fun F' σ' H' S' => k F' σ' H' S'.drop
theorem sv_frozen {K : PySem.W.Frag} {t : TS} {ρ ρ1 : List Slot} {ds : List D} (i : Nat) (hi : ρ1[i]? = some (.own ds)) (h : SvD K t ρ (.nx ρ1)) : SvD K t ρ (.nx (ρ1.set i (.dat (.list ds)))) := fun B F0 F σ H S De k => h B F0 F σ H S De fun F' σ' H' S' => by
  obtain ⟨F2, S2⟩ := S'.freeze hi
  exact k F2 σ' H' S2
section
variable {X : Cx} {ρ ρ1 : List Slot} {st : Stmt} {sts : List Stmt} {ds : List D}
theorem sd_less {i : Nat} (h : SD X st ρ (.nx ρ1)) : SD X st ρ (.nx (ρ1.set i .no)) := ⟨sv_less i h.ev⟩
theorem sds_less {i : Nat} (h : SDs X sts ρ (.nx ρ1)) : SDs X sts ρ (.nx (ρ1.set i .no)) := ⟨sv_less i h.ev⟩
theorem sd_frozen {i : Nat} (h : SD X st ρ (.nx ρ1)) (hi : ρ1[i]? = some (.own ds) := by rfl) : SD X st ρ (.nx (ρ1.set i (.dat (.list ds)))) := ⟨sv_frozen i hi h.ev⟩
theorem sds_frozen {i : Nat} (h : SDs X sts ρ (.nx ρ1)) (hi : ρ1[i]? = some (.own ds) := by rfl) : SDs X sts ρ (.nx (ρ1.set i (.dat (.list ds)))) := ⟨sv_frozen i hi h.ev⟩
end
section
variable {α : Type}
theorem at_lt {l : List α} {n : Int} {d : α} (h0 : 0 ≤ n) (h : n < l.length) : atI l n = some (l.getD n.toNat d) := by
  obtain ⟨k, rfl⟩ : ∃ k : Nat, n = (k : Int) := ⟨n.toNat, by omega⟩
  have h1 : k < l.length := by omega
  refine atI_nat ?_
  rw [Int.toNat_natCast, List.getD_eq_getElem?_getD, List.getElem?_eq_getElem h1]
  rfl
theorem at_map {β : Type} {l : List α} {n : Int} {d : α} (f : α → β) (h0 : 0 ≤ n) (h : n < l.length) : atI (l.map f) n = some (f (l.getD n.toNat d)) := by
  obtain ⟨k, rfl⟩ : ∃ k : Nat, n = (k : Int) := ⟨n.toNat, by omega⟩
  have h1 : k < l.length := by omega
  refine atI_nat ?_
  rw [Int.toNat_natCast, List.getElem?_map, List.getD_eq_getElem?_getD, List.getElem?_eq_getElem h1]
  rfl
end
theorem cut_to (ds : List D) {n : Int} (h : 0 ≤ n) : cutD ds none (some n) = ds.take n.toNat := by
  unfold cutD
  obtain ⟨k, rfl⟩ : ∃ k : Nat, n = (k : Int) := ⟨n.toNat, by omega⟩
  rw [HT.sIx_none, HT.sIx_nat, List.drop_zero, Int.toNat_natCast, Nat.sub_zero]
  by_cases hk : k ≤ ds.length
  · rw [Nat.min_eq_left hk]
  · rw [Nat.min_eq_right (by omega), List.take_length, List.take_of_length_le (by omega)]
theorem cut_from (ds : List D) {n : Int} (h : 0 ≤ n) : cutD ds (some n) none = ds.drop n.toNat := by
  unfold cutD
  obtain ⟨k, rfl⟩ : ∃ k : Nat, n = (k : Int) := ⟨n.toNat, by omega⟩
  rw [HT.sIx_none, HT.sIx_nat, Int.toNat_natCast]
  by_cases hk : k ≤ ds.length
  · rw [Nat.min_eq_left hk]
    apply List.take_of_length_le
    rw [List.length_drop]
    omega
  · rw [Nat.min_eq_right (by omega), Nat.sub_self, List.take_zero, List.drop_of_length_le (by omega)]
/-! ### texts -/
def codes (s : Str) : List Nat := s.cps.toList
theorem codes_app (a b : Str) : codes (a ++ b) = codes a ++ codes b := by
  show (a.cps ++ b.cps).toList = _
  rw [Array.toList_append]
  rfl
theorem codes_len (a : Str) : a.length = (codes a).length := by
  show a.cps.size = a.cps.toList.length
  rw [Array.length_toList]
theorem codes_inj {a b : Str} (h : codes a = codes b) : a = b := by
  obtain ⟨x⟩ := a
  obtain ⟨y⟩ := b
  have : x = y := Array.toList_inj.mp h
  rw [this]
theorem codes_join : ∀ l : List Str, codes (Txt.join "" l) = (l.map codes).flatten := by
  have e : ∀ l : List Str, codes (Str.join "" l) = (l.map codes).flatten := by
    intro l
    induction l with
    | nil => rfl
    | cons a l ih =>
      cases l with
      | nil => simp [Str.join]
      | cons b l =>
        show codes (a ++ ("" : Str) ++ Str.join "" (b :: l)) = _
        rw [codes_app, codes_app, ih]
        have : codes ("" : Str) = [] := by decide +kernel
        rw [this, List.append_nil]
        rfl
  intro l
  have := e l
  unfold Txt.join
  rw [StrLaws.glued_eq_join]
  exact this
end DL

set_option maxRecDepth 100000
set_option maxHeartbeats 4000000
/-! The law's own defs, walked: draws. -/
namespace EH
open PySem PySem.Spec PyProof.Rows L2 Evl DL
def topS (i : Nat) : Stmt := PySem.Challenge.pw_elderhouse_k23_whole_halls.main.body.getD i (.Pass ⟨0, 0, 0, 0⟩)
structure Blt (mg : Str → Option Value) : Prop where
  len : mg "len" = none
  range : mg "range" = none
  list : mg "list" = none
  tuple : mg "tuple" = none
  int : mg "int" = none
  str : mg "str" = none
  sorted : mg "sorted" = none
  enumerate : mg "enumerate" = none
  reversed : mg "reversed" = none
  max : mg "max" = none
  sum : mg "sum" = none
section
variable {P : Program} {w : World} {K : PySem.W.Frag} {mg : Str → Option Value} {base : Heap}
/-! ### draws -/
def cellOf (sc : List Int) (k : Int) : Int := if 0 < sc.length then sc.getD (k % (sc.length : Int)).toNat 0 else 0
def drawn (sc : List Int) (k : Int) : Int := (cellOf sc k * (48271 + 2 * k) + (k * k + 1) * 69621) % 2147483647
def RDrawn (ds : List D) (d : D) : Prop := ∃ (sc : List Int) (k : Int), ds = [.scr sc, .int k] ∧ (0 ≤ k ∧ k ≤ 1000) ∧ sc.length ≤ 63 ∧ d = .int (drawn sc k)
abbrev sDrawn : Stmt := topS 26
abbrev nDrawn : List Str := ["_law_script", "_law_k", "_law_cell"]
theorem scDrawn : FnScope nDrawn ["_law_script", "_law_k"] (defScope sDrawn) := ⟨rfl, rfl, rfl, by decide +kernel, rfl, by decide +kernel, by decide +kernel⟩
theorem ok_drawn {f : Addr} {fd : FuncData} (F : Fun K "_law_drawn" "_law_drawn" sDrawn f fd) (T : Blt mg) : FnOk P w K mg base CX0 1 f fd ["_law_script", "_law_k"] (spD K RDrawn) := by
  refine fn_data F scDrawn (fun ds d h => ?_) (fun cdv A outer s H E hr ds d h => ?_)
  · obtain ⟨sc, k, rfl, _⟩ := h
    rfl
  · obtain ⟨sc, k, rfl, hk, hl, rfl⟩ := h
    refine sds_cons (sd_set (i := 2) scDrawn.nd ee_int) ?_
    refine sds_cons (ρ1 := [.dat (.scr sc), .dat (.int k), .dat (.int (cellOf sc k))]) ?_ (sds_ret (sd_ret ?_))
    · refine sd_if (et_gt (ee_lenC T.len (ee_var 0)) ee_int) (fun h => ?_) (fun h => ?_)
      · have h0 : 0 < sc.length := by simpa using h
        refine sds_one (sd_to (sd_set (i := 2) scDrawn.nd (ee_ixC (j := cellOf sc k) (ee_var 0) (ee_mod (ee_var 1) (ee_lenC T.len (ee_var 0)) (by omega)) ?_)) rfl)
        unfold cellOf
        rw [if_pos h0]
        exact at_lt (Int.emod_nonneg _ (by omega)) (Int.emod_lt_of_pos _ (by omega))
      · have h0 : ¬ 0 < sc.length := by simpa using h
        have e : cellOf sc k = 0 := by unfold cellOf; rw [if_neg h0]
        rw [e]
        exact sds_nil
    · exact ee_mod (ee_add (ee_mul (ee_var 2) (ee_add ee_int (ee_mul ee_int (ee_var 1) (.inl (by decide)))) (.inr (by omega))) (ee_mul (ee_add (ee_mul (ee_var 1) (ee_var 1) (.inl (by omega))) ee_int) ee_int (.inr (by decide)))) ee_int
theorem drawn_range (sc : List Int) (k : Int) : 0 ≤ drawn sc k ∧ drawn sc k < 2147483647 := ⟨Int.emod_nonneg _ (by decide), Int.emod_lt_of_pos _ (by decide)⟩
end
end EH

set_option maxRecDepth 100000
set_option maxHeartbeats 4000000
/-! The law's own defs, walked: names. -/
namespace EH
open PySem PySem.Spec PyProof.Rows L2 Evl DL
/-! ### the mirror -/
def lt (z : Int) : Str := ⟨#[97 + (z % 26).toNat]⟩
def toldA : List Str := ["house", "of", "has", "can", "main", "let", "in", "if", "then", "else", "new", "self", "elder"]
def toldB : List Str := ["set", "not", "yes", "no", "number", "truth"]
def toldL : List Str := toldA ++ toldB
def digL : List Nat := [49, 50, 51, 52, 53, 54, 55, 56, 57, 48]
def digS (z : Int) : Str := ⟨#[digL.getD (z % 10).toNat 0]⟩
def base0 (r : Int) : List Str := (List.range 8).map fun (j : Nat) => lt (r / 64 + 5 * (j : Int))
def base3 (r k : Int) : List Str := (List.range 8).map fun (j : Nat) => lt (r + k / 8 + 3 * (j : Int))
def at0 (r : Int) : Nat := (r / 8 % (1 + r % 8)).toNat
def core0 (r k : Int) : Str := Txt.join "" (((base0 r).set (at0 r) (lt (r + k))).take (1 + r % 8).toNat)
def core1 (r k : Int) : Str := lt (r + k / 8) ++ Txt.join "" ((base0 r).take (k % 8).toNat)
def core3 (r k : Int) : Str := Txt.join "" ((base3 r k).drop (k % 8).toNat ++ (base3 r k).take (k % 8).toNat)
def core (c k : Int) : Str := if c % 4 = 0 then core0 (c / 4) k else if c % 4 = 1 then core1 (c / 4) k else core3 (c / 4) k
def nameM (c k : Int) : Str := if c % 4 = 2 then toldL.getD ((c / 4 + k) % 19).toNat "" ++ digS (c / 4 + k / 19)
  else if core c k ∈ toldL then cutS (core c k) none (some 1) ++ Str.ofString (toString k) else core c k
def RName (ds : List D) (d : D) : Prop := ∃ c k : Int, ds = [.int c, .int k] ∧ (0 ≤ k ∧ k < 26) ∧ d = .str (nameM c k)
/-! ### its facts -/
def letL : List Nat := (List.range 26).map (97 + ·)
theorem letters_at {z : Int} : atI ("abcdefghijklmnopqrstuvwxyz" : Str).cps.toList (z % 26) = some (97 + (z % 26).toNat) := by
  have h0 : 0 ≤ z % 26 := Int.emod_nonneg _ (by decide)
  have h1 : z % 26 < 26 := Int.emod_lt_of_pos _ (by decide)
  generalize z % 26 = y at h0 h1
  obtain ⟨k, rfl⟩ : ∃ k : Nat, y = (k : Int) := ⟨y.toNat, by omega⟩
  have hk : k < 26 := by omega
  rw [Int.toNat_natCast]
  refine atI_nat ?_
  have all : ∀ k, k < 26 → ("abcdefghijklmnopqrstuvwxyz" : Str).cps.toList[k]? = some (97 + k) := by decide +kernel
  exact all k hk
theorem digits_at {z : Int} : atI ("1234567890" : Str).cps.toList (z % 10) = some (digL.getD (z % 10).toNat 0) := by
  have h0 : 0 ≤ z % 10 := Int.emod_nonneg _ (by decide)
  have h1 : z % 10 < 10 := Int.emod_lt_of_pos _ (by decide)
  have e : ("1234567890" : Str).cps.toList = digL := by decide +kernel
  rw [e]
  exact at_lt h0 h1
theorem at0_lt (r : Int) : (at0 r : Int) = r / 8 % (1 + r % 8) ∧ at0 r < (1 + r % 8).toNat ∧ (1 + r % 8).toNat ≤ 8 := by
  have h0 : 0 ≤ r % 8 := Int.emod_nonneg _ (by decide)
  have h1 : r % 8 < 8 := Int.emod_lt_of_pos _ (by decide)
  have h2 : 0 ≤ r / 8 % (1 + r % 8) := Int.emod_nonneg _ (by omega)
  have h3 : r / 8 % (1 + r % 8) < 1 + r % 8 := Int.emod_lt_of_pos _ (by omega)
  unfold at0
  omega
theorem lt_len (z : Int) : (lt z).length = 1 := rfl
theorem join_len {ss : List Str} (h : ∀ s ∈ ss, s.length = 1) : (Txt.join "" ss).length = ss.length := by
  rw [codes_len, codes_join]
  induction ss with
  | nil => rfl
  | cons s ss ih =>
    rw [List.map_cons, List.flatten_cons, List.length_append, ih fun t ht => h t (List.mem_cons_of_mem _ ht), ← codes_len, h s List.mem_cons_self, List.length_cons]
    omega
theorem ones_sum {ss : List Str} (h : ∀ s ∈ ss, s.length = 1) : (ss.map (·.length)).sum = ss.length := by
  induction ss with
  | nil => rfl
  | cons s ss ih =>
    rw [List.map_cons, List.sum_cons, ih fun t ht => h t (List.mem_cons_of_mem _ ht), h s List.mem_cons_self, List.length_cons]
    omega
theorem base0_ones (r : Int) : ∀ s ∈ base0 r, s.length = 1 := fun s hs => by
  obtain ⟨j, _, rfl⟩ := List.mem_map.mp hs
  rfl
theorem base3_ones (r k : Int) : ∀ s ∈ base3 r k, s.length = 1 := fun s hs => by
  obtain ⟨j, _, rfl⟩ := List.mem_map.mp hs
  rfl
theorem set_ones {l : List Str} {i : Nat} {x : Str} (h : ∀ s ∈ l, s.length = 1) (hx : x.length = 1) : ∀ s ∈ l.set i x, s.length = 1 := fun s hs => by
  rcases List.mem_or_eq_of_mem_set hs with q | q
  · exact h s q
  · rw [q]; exact hx
theorem join_fits {ss : List Str} (h : ∀ s ∈ ss, s.length = 1) (hl : ss.length ≤ 100) : (ss.map (·.length)).sum + ss.length * ("" : Str).length ≤ 16777216 := by
  rw [ones_sum h]
  have : ("" : Str).length = 0 := by decide +kernel
  rw [this]
  omega
section
variable {P : Program} {w : World} {K : PySem.W.Frag} {mg : Str → Option Value} {base : Heap}
abbrev sName : Stmt := topS 27
abbrev nName : List Str := ["_law_cell", "_law_k", "_law_letters", "_law_told", "_law_rest", "_law_base", "_law_at", "_law_name_here", "_law_j"]
theorem scName : FnScope nName ["_law_cell", "_law_k"] (defScope sName) := ⟨rfl, rfl, rfl, by decide +kernel, rfl, by decide +kernel, by decide +kernel⟩
theorem mod_pos (a : Int) {b : Int} (h : 0 < b) : 0 ≤ a % b ∧ a % b < b := ⟨Int.emod_nonneg _ (by omega), Int.emod_lt_of_pos _ h⟩
theorem ok_name {f : Addr} {fd : FuncData} (F : Fun K "_law_name" "_law_name" sName f fd) (T : Blt mg) : FnOk P w K mg base CX0 1 f fd ["_law_cell", "_law_k"] (spD K RName) := by
  refine fn_data F scName (fun ds d h => ?_) (fun cdv A outer s H E hr ds d h => ?_)
  · obtain ⟨c, k, rfl, _⟩ := h
    rfl
  · obtain ⟨c, k, rfl, hk, rfl⟩ := h
    have hl26 : ("abcdefghijklmnopqrstuvwxyz" : Str).length ≤ 100000 := by decide +kernel
    have hl10 : ("1234567890" : Str).length ≤ 100000 := by decide +kernel
    refine sds_cons (sd_set (i := 2) scName.nd ee_str) ?_
    refine sds_cons (sd_set (i := 3) scName.nd (EN.ee (en_lst (ds := toldA.map D.str) (ea_strs (.cons (.cons (.cons (.cons (.cons (.cons (.cons (.cons (.cons (.cons (.cons (.cons (.cons .nil)))))))))))))) (by decide +kernel)))) ?_
    refine sds_cons (sd_set (i := 3) scName.nd (EN.ee (en_is (en_cat (ee_var 3) (EN.ee (en_lst (ds := toldB.map D.str) (ea_strs (.cons (.cons (.cons (.cons (.cons (.cons .nil))))))) (by decide +kernel))) (by decide +kernel)) (ys := toldL.map D.str) List.map_append.symm))) ?_
    refine sds_cons (sd_set (i := 4) scName.nd (ee_fdiv (ee_var 0) ee_int)) ?_
    refine sds_cons (ρ1 := [.dat (.int c), .dat (.int k), .dat (.str "abcdefghijklmnopqrstuvwxyz"), .dat (.list (toldL.map D.str)), .dat (.int (c / 4)), .own ((base0 (c / 4)).map D.str), .no, .no, .no])
      (sd_to (sd_setLc1 (i := 5) (as := List.range 8) (e := fun (j : Nat) => .str (lt (c / 4 / 64 + 5 * (j : Int)))) (fun (i : Nat) => .int (i : Int)) 8 scName.nd (blkOk_by (N := nName) (sc := defScope sName) (by decide +kernel))
        (ie_rng1 T.range ee_int (by decide) (by decide)) (by decide)
        (fun j hj s H0 C cl fp => ee_ixS (ee_var 2) (ee_mod (ee_add (ee_fdiv (ee_var 4) ee_int) (ee_mul ee_int (ee_var 8) (.inl (by decide)))) ee_int) hl26 letters_at)) ?_) ?_
    · show Oc.nx _ = _
      unfold base0
      rw [List.map_map]
      rfl
    generalize hr4 : c / 4 = r
    by_cases h2 : c % 4 = 2
    · have e : nameM c k = toldL.getD ((r + k) % 19).toNat "" ++ digS (r + k / 19) := by
        unfold nameM
        rw [if_pos h2, hr4]
      rw [e]
      refine sds_ret (sd_ifT (et_is (et_eqI (ee_mod (ee_var 0) ee_int) ee_int) (decide_eq_true h2)) (sds_ret (sd_ret (ee_adds (ee_ixL (ee_var 3) (ee_mod (ee_add (ee_var 4) (ee_var 1)) ee_int) (at_map D.str (mod_pos _ (by decide)).1 (mod_pos _ (by decide)).2)) (ee_ixS ee_str (ee_mod (ee_add (ee_var 4) (ee_fdiv (ee_var 1) ee_int)) ee_int) hl10 digits_at) ?_))))
      have all : ∀ j, j < 19 → (toldL.getD j "").length ≤ 100 := by decide +kernel
      have h1 := (mod_pos (r + k) (b := 19) (by decide))
      have := all ((r + k) % 19).toNat (by omega)
      show _ + 1 ≤ 100000
      omega
    · refine sds_cons (sd_ifF (et_is (et_eqI (ee_mod (ee_var 0) ee_int) ee_int) (decide_eq_false h2)) sds_nil) ?_
      have hr8 : 0 ≤ r % 8 ∧ r % 8 < 8 := mod_pos _ (by decide)
      have hk8 : 0 ≤ k % 8 ∧ k % 8 < 8 := mod_pos _ (by decide)
      refine sds_cons (ρ1 := [.dat (.int c), .dat (.int k), .dat (.str "abcdefghijklmnopqrstuvwxyz"), .dat (.list (toldL.map D.str)), .dat (.int r), .no, .no, .dat (.str (core c k)), .no]) ?_ ?_
      · by_cases h0 : c % 4 = 0
        · refine sd_ifT (et_is (et_eqI (ee_mod (ee_var 0) ee_int) ee_int) (decide_eq_true h0)) ?_
          have e : core c k = core0 r k := by unfold core; rw [if_pos h0, hr4]
          rw [e]
          obtain ⟨a1, a2, a3⟩ := at0_lt r
          refine sds_less (i := 5) (ρ1 := [.dat (.int c), .dat (.int k), .dat (.str "abcdefghijklmnopqrstuvwxyz"), .dat (.list (toldL.map D.str)), .dat (.int r), .dat (.list (((base0 r).map D.str).set (at0 r) (.str (lt (r + k))))), .no, .dat (.str (core0 r k)), .no]) ?_
          refine sds_less (i := 6) (ρ1 := [.dat (.int c), .dat (.int k), .dat (.str "abcdefghijklmnopqrstuvwxyz"), .dat (.list (toldL.map D.str)), .dat (.int r), .dat (.list (((base0 r).map D.str).set (at0 r) (.str (lt (r + k))))), .dat (.int (r / 8 % (1 + r % 8))), .dat (.str (core0 r k)), .no]) ?_
          refine sds_cons (sd_set (i := 6) scName.nd (ee_mod (ee_fdiv (ee_var 4) ee_int) (ee_add ee_int (ee_mod (ee_var 4) ee_int)) (by omega))) ?_
          refine sds_cons (sd_sub (ds := (base0 r).map D.str) (i := 5) (j := at0 r) (ee_ixS (ee_var 2) (ee_mod (ee_add (ee_var 4) (ee_var 1)) ee_int) hl26 letters_at) (ee_var 6) a1.symm (by rw [List.length_map]; unfold base0; rw [List.length_map, List.length_range]; omega)) ?_
          refine sds_freeze 5 (by rfl) ?_
          refine sds_one (sd_set (i := 7) scName.nd (ee_join (ss := ((base0 r).set (at0 r) (lt (r + k))).take (1 + r % 8).toNat) ee_str (EN.ee (en_is (en_slL (ee_var 5) eo_none (eo_some (ee_add ee_int (ee_mod (ee_var 4) ee_int)))) ?_)) ?_))
          · rw [cut_to _ (by omega), List.map_take, List.map_set]
            rfl
          · refine join_fits (fun s hs => set_ones (base0_ones r) (lt_len _) s (List.mem_of_mem_take hs)) ?_
            rw [List.length_take]
            omega
        · refine sd_ifF (et_is (et_eqI (ee_mod (ee_var 0) ee_int) ee_int) (decide_eq_false h0)) ?_
          refine sds_one ?_
          by_cases h1 : c % 4 = 1
          · refine sd_ifT (et_is (et_eqI (ee_mod (ee_var 0) ee_int) ee_int) (decide_eq_true h1)) ?_
            have e : core c k = core1 r k := by unfold core; rw [if_neg h0, if_pos h1, hr4]
            rw [e]
            refine sds_less (i := 5) (ρ1 := [.dat (.int c), .dat (.int k), .dat (.str "abcdefghijklmnopqrstuvwxyz"), .dat (.list (toldL.map D.str)), .dat (.int r), .dat (.list ((base0 r).map D.str)), .no, .dat (.str (core1 r k)), .no]) ?_
            refine sds_freeze 5 (by rfl) ?_
            have h8 : ∀ s ∈ (base0 r).take (k % 8).toNat, s.length = 1 := fun s hs => base0_ones r s (List.mem_of_mem_take hs)
            refine sds_one (sd_set (i := 7) scName.nd (ee_adds (ee_ixS (ee_var 2) (ee_mod (ee_add (ee_var 4) (ee_fdiv (ee_var 1) ee_int)) ee_int) hl26 letters_at)
              (ee_join (ss := (base0 r).take (k % 8).toNat) ee_str (EN.ee (en_is (en_slL (ee_var 5) eo_none (eo_some (ee_mod (ee_var 1) ee_int))) ?_)) ?_) ?_))
            · rw [cut_to _ (by omega), List.map_take]
            · refine join_fits h8 ?_
              rw [List.length_take]
              omega
            · rw [join_len h8, List.length_take]
              show 1 + _ ≤ 100000
              omega
          · refine sd_ifF (et_is (et_eqI (ee_mod (ee_var 0) ee_int) ee_int) (decide_eq_false h1)) ?_
            have e : core c k = core3 r k := by unfold core; rw [if_neg h0, if_neg h1, hr4]
            rw [e]
            refine sds_less (i := 5) (ρ1 := [.dat (.int c), .dat (.int k), .dat (.str "abcdefghijklmnopqrstuvwxyz"), .dat (.list (toldL.map D.str)), .dat (.int r), .dat (.list ((base3 r k).map D.str)), .no, .dat (.str (core3 r k)), .no]) ?_
            refine sds_cons (ρ1 := [.dat (.int c), .dat (.int k), .dat (.str "abcdefghijklmnopqrstuvwxyz"), .dat (.list (toldL.map D.str)), .dat (.int r), .own ((base3 r k).map D.str), .no, .no, .no])
              (sd_to (sd_setLc1 (i := 5) (as := List.range 8) (e := fun (j : Nat) => .str (lt (r + k / 8 + 3 * (j : Int)))) (fun (i : Nat) => .int (i : Int)) 8 scName.nd (blkOk_by (N := nName) (sc := defScope sName) (by decide +kernel))
                (ie_rng1 T.range ee_int (by decide) (by decide)) (by decide)
                (fun j hj s H0 C cl fp => ee_ixS (ee_var 2) (ee_mod (ee_add (ee_add (ee_var 4) (ee_fdiv (ee_var 1) ee_int)) (ee_mul ee_int (ee_var 8) (.inl (by decide)))) ee_int) hl26 letters_at)) ?_) ?_
            · show Oc.nx _ = _
              unfold base3
              rw [List.map_map]
              rfl
            refine sds_freeze 5 (by rfl) ?_
            have hb : ((base3 r k).map D.str).length ≤ 8 := by
              unfold base3
              rw [List.length_map, List.length_map, List.length_range]
              omega
            refine sds_one (sd_set (i := 7) scName.nd (ee_join (ss := (base3 r k).drop (k % 8).toNat ++ (base3 r k).take (k % 8).toNat) ee_str
              (EN.ee (en_is (en_cat (EN.ee (en_is (en_slL (ee_var 5) (eo_some (ee_mod (ee_var 1) ee_int)) eo_none) (cut_from _ hk8.1))) (EN.ee (en_is (en_slL (ee_var 5) eo_none (eo_some (ee_mod (ee_var 1) ee_int))) (cut_to _ hk8.1))) ?_) ?_)) ?_))
            · rw [List.length_drop, List.length_take]
              omega
            · rw [List.map_append, List.map_drop, List.map_take]
            · refine join_fits (fun s hs => ?_) ?_
              · rcases List.mem_append.mp hs with q | q
                · exact base3_ones r k s (List.mem_of_mem_drop q)
                · exact base3_ones r k s (List.mem_of_mem_take q)
              · rw [List.length_map] at hb
                rw [List.length_append, List.length_drop, List.length_take]
                omega
      · by_cases hm : core c k ∈ toldL
        · have e : nameM c k = cutS (core c k) none (some 1) ++ Str.ofString (toString k) := by
            unfold nameM
            rw [if_neg h2, if_pos hm]
          rw [e]
          have all : ∀ s ∈ toldL, s.length ≤ 100 ∧ (cutS s none (some 1)).length ≤ 100 := by decide +kernel
          have hl := all _ hm
          refine sds_ret (sd_ifT (et_is (et_in (ee_var 7) (ee_var 3)) (decide_eq_true hm)) (sds_ret (sd_ret (ee_adds (ee_slS (ee_var 7) eo_none (eo_some ee_int) (by omega)) (ee_strI T.str (ee_var 1) ?_) ?_))))
          · exact Nat.lt_of_le_of_lt (Nat.log2_le_self _) (by omega)
          · have allk : ∀ n : Nat, n < 26 → (Str.ofString (toString (n : Int))).length ≤ 100 := by decide +kernel
            have h3 := allk k.toNat (by omega)
            rw [show ((k.toNat : Nat) : Int) = k by omega] at h3
            omega
        · have e : nameM c k = core c k := by
            unfold nameM
            rw [if_neg h2, if_neg hm]
          rw [e]
          exact sds_cons (sd_ifF (et_is (et_in (ee_var 7) (ee_var 3)) (decide_eq_false hm)) sds_nil) (sds_ret (sd_ret (ee_var 7)))
end
end EH

set_option maxRecDepth 100000
set_option maxHeartbeats 4000000
/-! The law's own defs, walked: elders drawn, kinds, fields, params, heads. -/
namespace EH
open PySem PySem.Spec PyProof.Rows L2 Evl DL
/-! ### the mirrors -/
def elderAt (sc : List Int) (ord : List Nat) (p : Nat) : Option Nat :=
  if drawn sc (30 + (p : Int)) % 5 > 2 then some (ord.getD (p - 1) 0) else if drawn sc (30 + (p : Int)) % 5 > 0 then some (ord.getD (drawn sc (30 + (p : Int)) / 5 % (p : Int)).toNat 0) else none
def eldersM (sc : List Int) (ord : List Nat) : Nat → List (Option Nat)
  | 0 => List.replicate ord.length none
  | p + 1 => match elderAt sc ord (p + 1) with
    | none => eldersM sc ord p
    | some e => (eldersM sc ord p).set (ord.getD (p + 1) 0) (some e)
def encO : Option Nat → D
  | none => .non
  | some k => .int (k : Int)
def encN (k : Nat) : D := .int (k : Int)
theorem eldersM_len (sc : List Int) (ord : List Nat) : ∀ p, (eldersM sc ord p).length = ord.length
  | 0 => List.length_replicate
  | p + 1 => by
    unfold eldersM
    split
    · exact eldersM_len sc ord p
    · rw [List.length_set]; exact eldersM_len sc ord p
def RElders (ds : List D) (d : D) : Prop := ∃ (sc : List Int) (ord : List Nat), ds = [.scr sc, .list (ord.map encN)] ∧ sc.length ≤ 63 ∧ ord.length ≤ 12 ∧ (∀ j ∈ ord, j < ord.length) ∧ d = .list ((eldersM sc ord (ord.length - 1)).map encO)
def kindL : List Str := ["number", "truth"]
def kindM (num : Int) (names : List Str) : Str := (kindL ++ names ++ names).getD (num % (2 + 2 * (names.length : Int))).toNat ""
def RKind (ds : List D) (d : D) : Prop := ∃ (num : Int) (names : List Str), ds = [.int num, .list (names.map D.str)] ∧ names.length ≤ 12 ∧ d = .str (kindM num names)
def fieldN (sc : List Int) (j : Nat) (pool : List Str) (k : Nat) : Str := pool.getD ((drawn sc (50 + (j : Int)) / 5 + 7 * (k : Int)) % 26).toNat ""
def fieldsM (sc : List Int) (j : Nat) (taken pool names : List Str) : List (Str × Str) :=
  ((List.range (drawn sc (50 + (j : Int)) % 5).toNat).filter fun k => !decide (fieldN sc j pool k ∈ taken)).map fun k => (fieldN sc j pool k, kindM (drawn sc (70 + 4 * (j : Int) + (k : Int)) / 3) names)
def encP (p : Str × Str) : D := .tup [.str p.1, .str p.2]
def RFields (ds : List D) (d : D) : Prop := ∃ (sc : List Int) (j : Nat) (taken pool names : List Str), ds = [.scr sc, .int (j : Int), .list (taken.map D.str), .list (pool.map D.str), .list (names.map D.str)] ∧ sc.length ≤ 63 ∧ j < 12 ∧ pool.length = 26 ∧ names.length ≤ 12 ∧ d = .tup ((fieldsM sc j taken pool names).map encP)
def paramsM (num : Int) (pool names : List Str) : List (Str × Str) :=
  (List.range (num % 5).toNat).map fun (k : Nat) => (pool.getD ((num / 5 + 3 * (k : Int)) % 26).toNat "", kindM (num / 7 / (1 + 11 * (k : Int))) names)
def RParams (ds : List D) (d : D) : Prop := ∃ (num : Int) (pool names : List Str), ds = [.int num, .list (pool.map D.str), .list (names.map D.str)] ∧ pool.length = 26 ∧ names.length ≤ 12 ∧ d = .tup ((paramsM num pool names).map encP)
structure HHead where
  word : Str
  params : List (Str × Str)
  kind : Str
def encH (h : HHead) : D := .tup [.str h.word, .tup (h.params.map encP), .str h.kind]
def headsN (z : Int) : Nat := [0, 1, 2, 3, 2, 8].getD (z % 6).toNat 0
def headAt (sc : List Int) (j : Nat) (pool1 pool2 names : List Str) (k : Nat) : HHead :=
  ⟨pool1.getD ((drawn sc (120 + (j : Int)) / 6 + 5 * (k : Int)) % 12).toNat "", paramsM (drawn sc (140 + 8 * (j : Int) + (k : Int))) pool2 names, kindM (drawn sc (140 + 8 * (j : Int) + (k : Int)) / 35) names⟩
def headsM (sc : List Int) (j : Nat) (pool1 pool2 names : List Str) : List HHead := (List.range (headsN (drawn sc (120 + (j : Int))))).map (headAt sc j pool1 pool2 names)
def encPool (p : List Str) : D := .list (p.map D.str)
def RHeads (ds : List D) (d : D) : Prop := ∃ (sc : List Int) (j : Nat) (pool0 pool1 pool2 names : List Str), ds = [.scr sc, .int (j : Int), .list [encPool pool0, encPool pool1, encPool pool2], .list (names.map D.str)] ∧ sc.length ≤ 63 ∧ j < 12 ∧ pool1.length = 26 ∧ pool2.length = 26 ∧ names.length ≤ 12 ∧ d = .list ((headsM sc j pool1 pool2 names).map encH)
theorem range_at {m : Nat} {pre post : List Nat} {a : Nat} (e : List.range m = pre ++ a :: post) : a = pre.length ∧ pre.length < m ∧ pre = List.range pre.length := by
  have hl : pre.length < m := by
    have := congrArg List.length e
    simp at this
    omega
  have h1 : (List.range m)[pre.length]? = some a := by rw [e, List.getElem?_append_right (Nat.le_refl _)]; simp
  rw [List.getElem?_range hl] at h1
  refine ⟨(Option.some.inj h1).symm, hl, ?_⟩
  have := congrArg (List.take pre.length) e
  rw [List.take_append_of_le_length (Nat.le_refl _), List.take_length, List.take_range, Nat.min_eq_left (Nat.le_of_lt hl)] at this
  exact this.symm
section
variable {P : Program} {w : World} {K : PySem.W.Frag} {mg : Str → Option Value} {base : Heap}
/-! ### elders drawn -/
abbrev sElders : Stmt := topS 29
abbrev nElders : List Str := ["_law_script", "_law_order_here", "_law_found", "_law_place", "_law_number"]
theorem scElders : FnScope nElders ["_law_script", "_law_order_here"] (defScope sElders) := ⟨rfl, rfl, rfl, by decide +kernel, rfl, by decide +kernel, by decide +kernel⟩
theorem ok_elders {f : Addr} {fd : FuncData} (F : Fun K "_law_elders_drawn" "_law_elders_drawn" sElders f fd) (T : Blt mg) (cD : CalD P w K mg base 1 "_law_drawn" RDrawn) : FnOk P w K mg base CX0 2 f fd ["_law_script", "_law_order_here"] (spD K RElders) := by
  refine fn_data F scElders (fun ds d h => ?_) (fun cdv A outer s H E hr ds d h => ?_)
  · obtain ⟨sc, ord, rfl, _⟩ := h
    rfl
  · obtain ⟨sc, ord, rfl, hsc, hn, hord, rfl⟩ := h
    refine sds_cons (ρ1 := [.dat (.scr sc), .dat (.list (ord.map encN)), .own ((eldersM sc ord 0).map encO), .no, .no])
      (sd_to (sd_setN (i := 2) scElders.nd (en_rep (EN.ee (en_lst (ea_cons ee_non ea_nil))) (ee_len T.len (ee_var 1)) (by omega) (by rw [List.length_map]; omega))) ?_) ?_
    · show Oc.nx _ = _
      rw [List.length_map]
      unfold eldersM
      rw [List.map_replicate, Int.toNat_natCast]
      rfl
    refine sds_cons (sd_for1 (as := List.range (ord.length - 1)) (P := fun pre => [.dat (.scr sc), .dat (.list (ord.map encN)), .own ((eldersM sc ord pre.length).map encO), .no, .no]) 3 (fun i : Nat => .int (1 + (i : Int))) scElders.nd ((ie_rng2 T.range ee_int (ee_len T.len (ee_var 1)) (by decide) (by rw [List.length_map]; omega)).to ?_) rfl (fun pre a post e => ?_)) ?_
    · rw [List.length_map]
      congr 2
      omega
    · obtain ⟨rfl, hlt, _⟩ := range_at e
      rw [List.length_append, List.length_singleton]
      refine sds_less (i := 3) (ρ1 := [.dat (.scr sc), .dat (.list (ord.map encN)), .own ((eldersM sc ord (pre.length + 1)).map encO), .dat (.int (1 + (pre.length : Int))), .no]) ?_
      refine sds_less (i := 4) (ρ1 := [.dat (.scr sc), .dat (.list (ord.map encN)), .own ((eldersM sc ord (pre.length + 1)).map encO), .dat (.int (1 + (pre.length : Int))), .dat (.int (drawn sc (30 + (1 + (pre.length : Int)))))]) ?_
      refine sds_cons (sd_set (i := 4) scElders.nd (ee_call cD hr (by decide) (ea_cons (ee_var 0) (ea_cons (ee_add ee_int (ee_var 3)) ea_nil)) ⟨sc, _, rfl, by omega, hsc, rfl⟩)) ?_
      refine sds_one ?_
      generalize hp : pre.length = p at hlt ⊢
      have en : ((p + 1 : Nat) : Int) = 1 + (p : Int) := by omega
      have o0 := (mod_pos (drawn sc (30 + (1 + (p : Int)))) (b := 5) (by decide))
      have oM := (mod_pos (drawn sc (30 + (1 + (p : Int))) / 5) (b := 1 + (p : Int)) (by omega))
      have lm : (ord.map encN).length = ord.length := List.length_map _
      have op : ord.getD (p + 1) 0 < ord.length := by
        rw [List.getD_eq_getElem?_getD, List.getElem?_eq_getElem (by omega)]
        exact hord _ (List.getElem_mem _)
      by_cases h2 : drawn sc (30 + (1 + (p : Int))) % 5 > 2
      · have e1 : eldersM sc ord (p + 1) = (eldersM sc ord p).set (ord.getD (p + 1) 0) (some (ord.getD p 0)) := by
          have : elderAt sc ord (p + 1) = some (ord.getD p 0) := by unfold elderAt; rw [en, if_pos h2]; rfl
          rw [eldersM, this]
        rw [e1, List.map_set]
        refine sd_ifT (et_is (et_gt (ee_mod (ee_var 4) ee_int) ee_int) (decide_eq_true h2)) (sds_one (sd_sub (i := 2) (j := ord.getD (p + 1) 0) (d := encN (ord.getD p 0)) (n := (ord.getD (p + 1) 0 : Nat)) (ee_ixL (ee_var 1) (ee_sub (ee_var 3) ee_int) ?_) (ee_ixL (ee_var 1) (ee_var 3) ?_) rfl ?_))
        · exact (at_map encN (d := 0) (by omega) (by omega)).trans (by rw [show (1 + (p : Int) - 1).toNat = p by omega])
        · exact (at_map encN (d := 0) (by omega) (by omega)).trans (by rw [show (1 + (p : Int)).toNat = p + 1 by omega]; rfl)
        · rw [List.length_map, eldersM_len]; exact op
      · refine sd_ifF (et_is (et_gt (ee_mod (ee_var 4) ee_int) ee_int) (decide_eq_false h2)) (sds_one ?_)
        by_cases h0 : drawn sc (30 + (1 + (p : Int))) % 5 > 0
        · have e1 : eldersM sc ord (p + 1) = (eldersM sc ord p).set (ord.getD (p + 1) 0) (some (ord.getD (drawn sc (30 + (1 + (p : Int))) / 5 % (1 + (p : Int))).toNat 0)) := by
            have : elderAt sc ord (p + 1) = some (ord.getD (drawn sc (30 + (1 + (p : Int))) / 5 % (1 + (p : Int))).toNat 0) := by unfold elderAt; rw [en, if_neg h2, if_pos h0]
            rw [eldersM, this]
          rw [e1, List.map_set]
          refine sd_ifT (et_is (et_gt (ee_mod (ee_var 4) ee_int) ee_int) (decide_eq_true h0)) (sds_one (sd_sub (i := 2) (j := ord.getD (p + 1) 0) (d := encN (ord.getD (drawn sc (30 + (1 + (p : Int))) / 5 % (1 + (p : Int))).toNat 0)) (n := (ord.getD (p + 1) 0 : Nat))
            (ee_ixL (ee_var 1) (ee_mod (ee_fdiv (ee_var 4) ee_int) (ee_var 3) (by omega)) ?_) (ee_ixL (ee_var 1) (ee_var 3) ?_) rfl ?_))
          · exact at_map encN (d := 0) (by omega) (by omega)
          · exact (at_map encN (d := 0) (by omega) (by omega)).trans (by rw [show (1 + (p : Int)).toNat = p + 1 by omega]; rfl)
          · rw [List.length_map, eldersM_len]; exact op
        · have e1 : eldersM sc ord (p + 1) = eldersM sc ord p := by
            have : elderAt sc ord (p + 1) = none := by unfold elderAt; rw [en, if_neg h2, if_neg h0]
            rw [eldersM, this]
          rw [e1]
          exact sd_ifF (et_is (et_gt (ee_mod (ee_var 4) ee_int) ee_int) (decide_eq_false h0)) sds_nil
    · refine sds_from (ρ1 := [.dat (.scr sc), .dat (.list (ord.map encN)), .own ((eldersM sc ord (ord.length - 1)).map encO), .no, .no]) (sds_freeze 2 (by rfl) (sds_ret (sd_ret (ee_var 2)))) ?_
      rw [List.length_range]
/-! ### kinds -/
abbrev sKind : Stmt := topS 30
abbrev nKind : List Str := ["_law_number", "_law_names"]
theorem scKind : FnScope nKind ["_law_number", "_law_names"] (defScope sKind) := ⟨rfl, rfl, rfl, by decide +kernel, rfl, by decide +kernel, by decide +kernel⟩
theorem ok_kind {f : Addr} {fd : FuncData} (F : Fun K "_law_kind" "_law_kind" sKind f fd) (T : Blt mg) : FnOk P w K mg base CX0 1 f fd ["_law_number", "_law_names"] (spD K RKind) := by
  refine fn_data F scKind (fun ds d h => ?_) (fun cdv A outer s H E hr ds d h => ?_)
  · obtain ⟨_, _, rfl, _⟩ := h
    rfl
  · obtain ⟨num, names, rfl, hn, rfl⟩ := h
    have lm : (names.map D.str).length = names.length := List.length_map _
    have hm := mod_pos num (b := 2 + 2 * (names.length : Int)) (by omega)
    refine sds_ret (sd_ret (ee_ixL (ds := (kindL ++ names ++ names).map D.str) (i := num % (2 + 2 * (names.length : Int))) (EN.ee (en_is (en_cat (EN.ee (en_cat (EN.ee (en_lst (ea_cons ee_str (ea_cons ee_str ea_nil)))) (ee_var 1) ?_)) (ee_var 1) ?_) ?_)) ?_ ?_))
    · rw [lm]; show 2 + _ ≤ _; omega
    · rw [List.length_append, lm]; show 2 + _ + _ ≤ _; omega
    · rw [List.map_append, List.map_append]; rfl
    · refine ee_is (ee_mod (ee_var 0) (ee_add ee_int (ee_mul ee_int (ee_len T.len (ee_var 1)) (.inl (by decide)))) (by omega)) ?_
      rw [lm]
    · refine at_map D.str hm.1 ?_
      rw [List.length_append, List.length_append]
      show _ < ((2 + _ + _ : Nat) : Int)
      omega
/-! ### fields -/
abbrev sFields : Stmt := topS 31
abbrev nFields : List Str := ["_law_script", "_law_j", "_law_taken", "_law_pool", "_law_names", "_law_number", "_law_found", "_law_k", "_law_name_here"]
theorem scFields : FnScope nFields ["_law_script", "_law_j", "_law_taken", "_law_pool", "_law_names"] (defScope sFields) := ⟨rfl, rfl, rfl, by decide +kernel, rfl, by decide +kernel, by decide +kernel⟩
theorem ok_fields {f : Addr} {fd : FuncData} (F : Fun K "_law_fields" "_law_fields" sFields f fd) (T : Blt mg) (cD : CalD P w K mg base 1 "_law_drawn" RDrawn) (cK : CalD P w K mg base 1 "_law_kind" RKind) : FnOk P w K mg base CX0 2 f fd ["_law_script", "_law_j", "_law_taken", "_law_pool", "_law_names"] (spD K RFields) := by
  refine fn_data F scFields (fun ds d h => ?_) (fun cdv A outer s H E hr ds d h => ?_)
  · obtain ⟨_, _, _, _, _, rfl, _⟩ := h
    rfl
  · obtain ⟨sc, j, taken, pool, names, rfl, hsc, hj, hp, hn, rfl⟩ := h
    refine sds_cons (sd_set (i := 5) scFields.nd (ee_call cD hr (by decide) (ea_cons (ee_var 0) (ea_cons (ee_add ee_int (ee_var 1)) ea_nil)) ⟨sc, _, rfl, by omega, hsc, rfl⟩)) ?_
    have hm := mod_pos (drawn sc (50 + (j : Int))) (b := 5) (by decide)
    refine sds_cons (sd_setN (i := 6) scFields.nd (en_lst ea_nil)) ?_
    refine sds_cons (sd_for1 (as := List.range (drawn sc (50 + (j : Int)) % 5).toNat) (P := fun pre => [.dat (.scr sc), .dat (.int (j : Int)), .dat (.list (taken.map D.str)), .dat (.list (pool.map D.str)), .dat (.list (names.map D.str)), .dat (.int (drawn sc (50 + (j : Int)))),
      .own (((pre.filter fun k => !decide (fieldN sc j pool k ∈ taken)).map fun k => (fieldN sc j pool k, kindM (drawn sc (70 + 4 * (j : Int) + (k : Int)) / 3) names)).map encP), .no, .no]) 7 (fun i : Nat => .int (i : Int)) scFields.nd (ie_rng1 T.range (ee_mod (ee_var 5) ee_int) (by omega) (by omega)) rfl (fun pre k post e => ?_)) ?_
    · obtain ⟨e1, hlt, _⟩ := range_at e
      have hk : k < 5 := by omega
      have ml := mod_pos (drawn sc (50 + (j : Int)) / 5 + 7 * (k : Int)) (b := 26) (by decide)
      rw [List.filter_append, List.map_append, List.map_append]
      generalize hg : ((pre.filter fun k => !decide (fieldN sc j pool k ∈ taken)).map fun k => (fieldN sc j pool k, kindM (drawn sc (70 + 4 * (j : Int) + (k : Int)) / 3) names)).map encP = xs
      have hxl : xs.length ≤ 5 := by
        rw [← hg, List.length_map, List.length_map]
        have := List.length_filter_le (fun k => !decide (fieldN sc j pool k ∈ taken)) pre
        omega
      refine sds_less (i := 7) (ρ1 := [.dat (.scr sc), .dat (.int (j : Int)), .dat (.list (taken.map D.str)), .dat (.list (pool.map D.str)), .dat (.list (names.map D.str)), .dat (.int (drawn sc (50 + (j : Int)))), .own (xs ++ _), .dat (.int (k : Int)), .no]) ?_
      refine sds_less (i := 8) (ρ1 := [.dat (.scr sc), .dat (.int (j : Int)), .dat (.list (taken.map D.str)), .dat (.list (pool.map D.str)), .dat (.list (names.map D.str)), .dat (.int (drawn sc (50 + (j : Int)))), .own (xs ++ _), .dat (.int (k : Int)), .dat (.str (fieldN sc j pool k))]) ?_
      refine sds_cons (sd_set (i := 8) scFields.nd (ee_ixL (d := .str (fieldN sc j pool k)) (ee_var 3) (ee_mod (ee_add (ee_fdiv (ee_var 5) ee_int) (ee_mul ee_int (ee_var 7) (.inl (by decide)))) ee_int) (at_map D.str ml.1 (by omega)))) ?_
      refine sds_one ?_
      by_cases hm : fieldN sc j pool k ∈ taken
      · rw [List.filter_cons, if_neg (by simp [hm])]
        refine sd_ifF (et_is (et_notIn (ee_var 8) (ee_var 2)) (by simp [hm])) ?_
        simp only [List.filter_nil, List.map_nil, List.append_nil]
        exact sds_nil
      · rw [List.filter_cons, if_pos (by simp [hm])]
        refine sd_ifT (et_is (et_notIn (ee_var 8) (ee_var 2)) (by simp [hm])) (sds_one ?_)
        have dr := drawn_range sc (70 + 4 * (j : Int) + (k : Int))
        exact sd_app (i := 6) (ee_tup (ea_cons (ee_var 8) (ea_cons (ee_call cK hr (by decide) (ea_cons (ee_fdiv (ee_call cD hr (by decide) (ea_cons (ee_var 0) (ea_cons (ee_add (ee_add ee_int (ee_mul ee_int (ee_var 1) (.inl (by decide)))) (ee_var 7)) ea_nil)) ⟨sc, _, rfl, by omega, hsc, rfl⟩) ee_int) (ea_cons (ee_var 4) ea_nil)) ⟨_, _, rfl, hn, rfl⟩) ea_nil))) (by omega)
    · exact sds_freeze 6 (by rfl) (sds_ret (sd_ret (ee_tupleOf T.tuple (ee_var 6))))
/-! ### params -/
abbrev sParams : Stmt := topS 32
abbrev nParams : List Str := ["_law_number", "_law_pool", "_law_names", "_law_kinds", "_law_k"]
theorem scParams : FnScope nParams ["_law_number", "_law_pool", "_law_names"] (defScope sParams) := ⟨rfl, rfl, rfl, by decide +kernel, rfl, by decide +kernel, by decide +kernel⟩
theorem ok_params {f : Addr} {fd : FuncData} (F : Fun K "_law_params" "_law_params" sParams f fd) (T : Blt mg) (cK : CalD P w K mg base 1 "_law_kind" RKind) : FnOk P w K mg base CX0 2 f fd ["_law_number", "_law_pool", "_law_names"] (spD K RParams) := by
  refine fn_data F scParams (fun ds d h => ?_) (fun cdv A outer s H E hr ds d h => ?_)
  · obtain ⟨_, _, _, rfl, _⟩ := h
    rfl
  · obtain ⟨num, pool, names, rfl, hp, hn, rfl⟩ := h
    have hm := mod_pos num (b := 5) (by decide)
    refine sds_cons (ρ1 := [.dat (.int num), .dat (.list (pool.map D.str)), .dat (.list (names.map D.str)), .own ((List.range 4).map fun (k : Nat) => .int (num / 7 / (1 + 11 * (k : Int)))), .no])
      (sd_setN (i := 3) scParams.nd (en_lc1 (as := List.range 4) (e := fun (k : Nat) => .int (num / 7 / (1 + 11 * (k : Int)))) (fun (i : Nat) => .int (i : Int)) 4 scParams.nd (blkOk_by (N := nParams) (sc := defScope sParams) (by decide +kernel))
        (ie_rng1 T.range ee_int (by decide) (by decide)) (by decide)
        (fun k hk s H0 C cl fp => ee_fdiv (ee_fdiv (ee_var 0) ee_int) (ee_add ee_int (ee_mul ee_int (ee_var 4) (.inl (by decide)))) ?_))) ?_
    · have := List.mem_range.mp hk
      exact ⟨by omega, by omega⟩
    refine sds_freeze 3 (by rfl) ?_
    refine sds_ret (sd_ret (ee_tupleOf T.tuple (EN.ee (en_is (en_lc1 (as := List.range (num % 5).toNat) (e := fun (k : Nat) => encP (pool.getD ((num / 5 + 3 * (k : Int)) % 26).toNat "", kindM (num / 7 / (1 + 11 * (k : Int))) names)) (fun (i : Nat) => .int (i : Int)) 4 scParams.nd (blkOk_by (N := nParams) (sc := defScope sParams) (by decide +kernel))
      (ie_rng1 T.range (ee_mod (ee_var 0) ee_int) (by omega) (by omega)) (by rw [List.length_range]; omega) (fun k hk s H0 C cl fp => ?_)) ?_))))
    · have hk := List.mem_range.mp hk
      have ml := mod_pos (num / 5 + 3 * (k : Int)) (b := 26) (by decide)
      refine ee_tup (ea_cons (ee_ixL (ee_var 1) (ee_mod (ee_add (ee_fdiv (ee_var 0) ee_int) (ee_mul ee_int (ee_var 4) (.inl (by decide)))) ee_int) (at_map D.str ml.1 (by omega)))
        (ea_cons (ee_call cK hr (by decide) (ea_cons (ee_ixL (d := .int (num / 7 / (1 + 11 * (k : Int)))) (ee_var 3) (ee_var 4) ?_) (ea_cons (ee_var 2) ea_nil)) ⟨_, _, rfl, hn, rfl⟩) ea_nil))
      refine atI_nat ?_
      rw [List.getElem?_map, List.getElem?_range (by omega)]
      rfl
    · unfold paramsM
      rw [List.map_map]
      rfl
/-! ### heads -/
abbrev sHeads : Stmt := topS 33
abbrev nHeads : List Str := ["_law_script", "_law_j", "_law_pools", "_law_names", "_law_number", "_law_found", "_law_k", "_law_more", "_law_word"]
theorem scHeads : FnScope nHeads ["_law_script", "_law_j", "_law_pools", "_law_names"] (defScope sHeads) := ⟨rfl, rfl, rfl, by decide +kernel, rfl, by decide +kernel, by decide +kernel⟩
theorem headsN_at (z : Int) : atI [D.int 0, .int 1, .int 2, .int 3, .int 2, .int 8] (z % 6) = some (.int (headsN z : Int)) ∧ headsN z ≤ 8 := by
  have h := mod_pos z (b := 6) (by decide)
  unfold headsN
  generalize z % 6 = y at h
  have all : ∀ k : Nat, k < 6 → atI [D.int 0, .int 1, .int 2, .int 3, .int 2, .int 8] (k : Int) = some (.int (([0, 1, 2, 3, 2, 8].getD k 0 : Nat) : Int)) ∧ [0, 1, 2, 3, 2, 8].getD k 0 ≤ 8 := fun k hk => by
    match k, hk with
    | 0, _ | 1, _ | 2, _ | 3, _ | 4, _ | 5, _ => exact ⟨rfl, by decide⟩
  have := all y.toNat (by omega)
  rwa [Int.toNat_of_nonneg h.1] at this
theorem ok_heads {f : Addr} {fd : FuncData} (F : Fun K "_law_heads" "_law_heads" sHeads f fd) (T : Blt mg) (cD : CalD P w K mg base 1 "_law_drawn" RDrawn) (cK : CalD P w K mg base 1 "_law_kind" RKind) (cP : CalD P w K mg base 2 "_law_params" RParams) : FnOk P w K mg base CX0 3 f fd ["_law_script", "_law_j", "_law_pools", "_law_names"] (spD K RHeads) := by
  refine fn_data F scHeads (fun ds d h => ?_) (fun cdv A outer s H E hr ds d h => ?_)
  · obtain ⟨_, _, _, _, _, _, rfl, _⟩ := h
    rfl
  · obtain ⟨sc, j, pool0, pool1, pool2, names, rfl, hsc, hj, hp1, hp2, hn, rfl⟩ := h
    refine sds_cons (sd_set (i := 4) scHeads.nd (ee_call cD hr (by decide) (ea_cons (ee_var 0) (ea_cons (ee_add ee_int (ee_var 1)) ea_nil)) ⟨sc, _, rfl, by omega, hsc, rfl⟩)) ?_
    obtain ⟨hn1, hn2⟩ := headsN_at (drawn sc (120 + (j : Int)))
    refine sds_cons (sd_setN (i := 5) scHeads.nd (en_lst ea_nil)) ?_
    refine sds_cons (sd_for1 (as := List.range (headsN (drawn sc (120 + (j : Int))))) (P := fun pre => [.dat (.scr sc), .dat (.int (j : Int)), .dat (.list [encPool pool0, encPool pool1, encPool pool2]), .dat (.list (names.map D.str)), .dat (.int (drawn sc (120 + (j : Int)))),
      .own ((pre.map (headAt sc j pool1 pool2 names)).map encH), .no, .no, .no]) 6 (fun i : Nat => .int (i : Int)) scHeads.nd ((ie_rng1 T.range (ee_ixL (EN.ee (en_lst (ea_cons ee_int (ea_cons ee_int (ea_cons ee_int (ea_cons ee_int (ea_cons ee_int (ea_cons ee_int ea_nil)))))))) (ee_mod (ee_var 4) ee_int) hn1) (by omega) (by omega)).to (by rw [Int.toNat_natCast])) rfl (fun pre k post e => ?_)) ?_
    · obtain ⟨e1, hlt, _⟩ := range_at e
      have hk : k < 8 := by omega
      have ml := mod_pos (drawn sc (120 + (j : Int)) / 6 + 5 * (k : Int)) (b := 12) (by decide)
      rw [List.map_append, List.map_append]
      generalize hg : (pre.map (headAt sc j pool1 pool2 names)).map encH = xs
      have hxl : xs.length ≤ 8 := by
        rw [← hg, List.length_map, List.length_map]
        omega
      refine sds_less (i := 6) (ρ1 := [.dat (.scr sc), .dat (.int (j : Int)), .dat (.list [encPool pool0, encPool pool1, encPool pool2]), .dat (.list (names.map D.str)), .dat (.int (drawn sc (120 + (j : Int)))), .own (xs ++ _), .dat (.int (k : Int)), .no, .no]) ?_
      refine sds_less (i := 7) (ρ1 := [.dat (.scr sc), .dat (.int (j : Int)), .dat (.list [encPool pool0, encPool pool1, encPool pool2]), .dat (.list (names.map D.str)), .dat (.int (drawn sc (120 + (j : Int)))), .own (xs ++ _), .dat (.int (k : Int)), .dat (.int (drawn sc (140 + 8 * (j : Int) + (k : Int)))), .no]) ?_
      refine sds_less (i := 8) (ρ1 := [.dat (.scr sc), .dat (.int (j : Int)), .dat (.list [encPool pool0, encPool pool1, encPool pool2]), .dat (.list (names.map D.str)), .dat (.int (drawn sc (120 + (j : Int)))), .own (xs ++ _), .dat (.int (k : Int)), .dat (.int (drawn sc (140 + 8 * (j : Int) + (k : Int)))), .dat (.str (pool1.getD ((drawn sc (120 + (j : Int)) / 6 + 5 * (k : Int)) % 12).toNat ""))]) ?_
      refine sds_cons (sd_set (i := 7) scHeads.nd (ee_call cD hr (by decide) (ea_cons (ee_var 0) (ea_cons (ee_add (ee_add ee_int (ee_mul ee_int (ee_var 1) (.inl (by decide)))) (ee_var 6)) ea_nil)) ⟨sc, _, rfl, by omega, hsc, rfl⟩)) ?_
      refine sds_cons (sd_set (i := 8) scHeads.nd (ee_ixL (d := .str (pool1.getD ((drawn sc (120 + (j : Int)) / 6 + 5 * (k : Int)) % 12).toNat "")) (ee_ixL (d := encPool pool1) (ee_var 2) ee_int (by rfl)) (ee_mod (ee_add (ee_fdiv (ee_var 4) ee_int) (ee_mul ee_int (ee_var 6) (.inl (by decide)))) ee_int) (at_map D.str ml.1 (by omega)))) ?_
      refine sds_one ?_
      exact sd_app (i := 5) (ee_tup (ea_cons (ee_var 8) (ea_cons (ee_call cP hr (by decide) (ea_cons (ee_var 7) (ea_cons (ee_ixL (d := encPool pool2) (ee_var 2) ee_int (by rfl)) (ea_cons (ee_var 3) ea_nil))) ⟨_, _, _, rfl, hp2, hn, rfl⟩)
        (ea_cons (ee_call cK hr (by decide) (ea_cons (ee_fdiv (ee_var 7) ee_int) (ea_cons (ee_var 3) ea_nil)) ⟨_, _, rfl, hn, rfl⟩) ea_nil)))) (by omega)
    · exact sds_freeze 5 (by rfl) (sds_ret (sd_ret (ee_var 5)))
end
end EH

set_option maxRecDepth 100000
set_option maxHeartbeats 4000000
/-! sorted(range(..), key=f), f's calls any that keep what J tells (J: by the keys made so far). -/
namespace EH
open PySem PySem.W PySem.Calls PyProof.Rows
section
variable {prog : Program} {w : World} {A : Around} {E : Value → Shared → Prop}
/-- what a turn is to do -/
def TurnJ (prog : Program) (w : World) (A : Around) (f : Value) (a kS : Addr) (e1 : Nat) (J : List Value → Shared → Prop) (ks : List Value) (v : Value) (s : Shared) : Prop := ∀ e : Nat,
  s.heap.get? kS = some (seqObj "list" ks.toArray e) → s.heap.get? a = some (seqObj "list" #[] e1) →
  wpAny (model prog w) A (call f [v]) (fun u s' => s'.heap.get? kS = some (seqObj "list" ks.toArray e) ∧ s'.heap.get? a = some (seqObj "list" #[] e1) ∧ J (ks ++ [u]) { s' with heap := s'.heap.update kS (Obj.mapSeq (·.push u)) }) (fun _ _ => False) s
theorem keyJ_rest {s : Shared} {a kS : Addr} {vs : List Value} {e1 : Nat} {P : PySem.Fin → Shared → Prop} {kz : List PyData} {f : Value} (J : List Value → Shared → Prop) (j0 : J [] s) (nk : s.heap.get? kS = some (seqObj "list" #[] 0)) (na : s.heap.get? a = some (seqObj "list" #[] e1))
    (hka : kS ≠ a) (hlen : kz.length = vs.length) (hZ : vs.length ≤ sizeLine) (hal : AllAlike kz) (hsk : Sortable kz) (hu : ∀ d, d ∈ kz → A.units + d.depth < cLine)
    (turn : ∀ (i : Nat) (v : Value) (ks : List Value) (s' : Shared), vs[i]? = some v → ks.length = i → J ks s' → TurnJ prog w A f a kS e1 J ks v s')
    (fin : ∀ ks s', J ks s' → ks.length = vs.length → EachIs (fun v k => ∃ as, Reads s'.heap v k as) ks kz)
    (h : ∀ ks s' h' tk out c, J ks s' → ks.length = vs.length → KeepsBut a (s'.heap.hide kS) h' → h'.get? a = some (seqObj "list" (List.toArray out) c) → KeyedOut false kz vs out → P (.done (.ret .none)) { s' with heap := h', toks := tk }) :
    wpAny (model prog w) A (ksk_rest a f false vs.toArray e1 (.ref kS)) P E s := by
  unfold ksk_rest
  refine wpAny_bind (wpAny_rule ?_)
  first
    | rw [List.forIn_toArray]
    | (rw [← Array.forIn_toList]; simp only [List.toList_toArray])
    | rw [← Array.forIn_toList]
  refine wpAny_bind (ksk_fold (fun i s' => ∃ ks e, ks.length = i ∧ J ks s' ∧ s'.heap.get? kS = some (seqObj "list" ks.toArray e) ∧ s'.heap.get? a = some (seqObj "list" #[] e1)) vs 0 s ⟨[], 0, rfl, j0, nk, na⟩ ?step ?done)
  case step =>
    rintro j x s' hx ⟨ks, e, hl, js, nk', na'⟩
    simp only [Nat.zero_add] at hl ⊢
    have hj : j < vs.length := (List.getElem?_eq_some_iff.mp hx).1
    refine wpAny_bind (wpAny_attempt (wpAny_mono (turn j x ks s' hx hl js e nk' na') (fun v s'' he => ?_) fun _ _ hF => hF.elim))
    obtain ⟨nk2, na2, j2⟩ := he
    try dsimp only
    have s1 := Heap.SameBut.update s''.heap kS (Obj.mapSeq (·.push v))
    obtain ⟨c2, hc2⟩ : ∃ c2, (s''.heap.update kS (Obj.mapSeq (·.push v))).get? kS = some (seqObj "list" (ks.toArray.push v) c2) := ⟨_, get?_update_seq nk2 (·.push v)⟩
    have hz : ks.toArray.size ≤ sizeLine := by rw [List.size_toArray]; omega
    refine wpAny_bind (listUpdate_at nk2 rfl ?_ hz (Nat.le_trans (Nat.le_of_eq (Array.size_push ..)) (Nat.succ_le_succ hz)))
    refine wpAny_pure ⟨rfl, ks ++ [v], c2, by rw [List.length_append, hl]; rfl, j2, ?_, (s1.2 a hka.symm).trans na2⟩
    have : (ks ++ [v]).toArray = ks.toArray.push v := by simp
    rw [this]
    exact hc2
  case done =>
    rintro s' ⟨ks, e, hl, js, nk', na'⟩
    have hl : ks.length = vs.length := by omega
    have hk' := fin ks s' js hl
    refine wpAny_bind (listItems_at nk' rfl ?_)
    refine keyH_end (κ := dataKind s'.heap kz) (h₁ := s'.heap.hide kS) (fun b o hb e => Heap.of_hide e) (by rw [Heap.hide_self]) nk' na' hka (SortsAt.data (s := s') hk' hal hsk hu) (by rw [List.size_toArray]; exact hl) hZ fun h3 tk3 c k3 n3 => h ks s' h3 tk3 _ c js hl k3 n3 ⟨s'.heap, ks, hal, rfl, hk'⟩
/-- sorted(range(n), key=f) -/
theorem sortedJ_range {s : Shared} {r q : Addr} {n : Nat} {t u v : Tok} {kf : Nat → PyData} {Q : Value → Shared → Prop} (J : Addr → Addr → List Value → Shared → Prop) (hh : A.handled = none) (hr : IsRange s.heap r 0 (n : Int) 1 t u v) (hn : n ≤ 1000)
    (hal : AllAlike ((List.range n).map kf)) (hsk : Sortable ((List.range n).map kf)) (hu : ∀ i, i < n → A.units + 2 + (kf i).depth < cLine)
    (enter : ∀ (h1 h' : Heap) (tk : Nat) (a kS : Addr), (∀ b o, s.heap.get? b = some o → h1.get? b = some o) → (∀ b o, h1.get? b = some o → h'.get? b = some o) → h1.objs.size ≤ a → h1.objs.size ≤ kS → kS ≠ a → J a kS [] { s with heap := h', toks := tk })
    (turn : ∀ (a kS : Addr) (e1 i : Nat) (t : Tok) (ks : List Value) (s' : Shared), kS ≠ a → i < n → ks.length = i → J a kS ks s' → TurnJ prog w A.in1.in1 (.ref q) a kS e1 (J a kS) ks (.int (i : Int) t) s')
    (fin : ∀ a kS ks s', J a kS ks s' → ks.length = n → EachIs (fun v k => ∃ as, Reads s'.heap v k as) ks ((List.range n).map kf))
    (h : ∀ a kS ks s' h' tk out c, kS ≠ a → J a kS ks s' → ks.length = n → KeepsBut a (s'.heap.hide kS) h' → h'.get? a = some (seqObj "list" (List.toArray out) c) → EachIs (fun v (i : Nat) => ∃ t, v = Value.int (i : Int) t) out ((List.range n).mergeSort (dataLe false kf)) →
      Q (.ref a) { s' with heap := h', toks := tk }) :
    wpAny (model prog w) A (call (.builtin "sorted") [.ref r] [(Str.ofString "key", .ref q)]) Q E s := by
  have hsize : (1000 : Nat) ≤ sizeLine := by decide
  refine call_function_entry_kw kind_sorted plain_sorted entry_sorted (ksk_s1 _ _) ?_
  unfold Builtin.«sorted»
  refine wpAny_bind (m := checkCount "sorted" 1 1 _) (wpAny_pure ?_)
  refine wpAny_bind (L2.collect_range (A := A.in1) (n := n) hh hr (small_one (by omega) (by omega) (by omega) (by omega)) ?_ (by omega) fun h1 tk acc kp1 hi => ?_)
  · have := rangeSize_nat 0 (n : Int)
    rw [this]
    omega
  have hacc : acc.toList.length = n := by rw [Array.length_toList]; exact hi.1
  have hZ : acc.toList.length ≤ sizeLine := by omega
  refine wpAny_bind (wpAny_newList ?_ hZ)
  show wpAny _ _ _ _ _ { s with heap := h1.push (seqObj "list" acc.toList.toArray 0), toks := tk }
  have hoL : (h1.push (seqObj "list" acc.toList.toArray 0)).get? h1.objs.size = some (seqObj "list" acc.toList.toArray 0) := Heap.get?_push_size _ rfl
  refine wpAny_bind (wpAny_holding (wpAny_call_entry_kw slot_list_sort ⟨_, hoL, rfl⟩ entry_list_sort ?body (ksk_l1 _ _)))
  case body =>
    show wpAny (model prog w) A.in1.in1 (Builtin.«list.sort» ⟨[.ref h1.objs.size], [(Str.ofString "key", .ref q)]⟩) _ _ _
    rw [ksk_t1]
    obtain ⟨e1, ho1⟩ : ∃ e1, ((h1.push (seqObj "list" acc.toList.toArray 0)).update h1.objs.size (Obj.mapSeq fun _ => (#[] : Array Value))).get? h1.objs.size = some (seqObj "list" #[] e1) := ⟨_, get?_update_seq hoL fun _ => #[]⟩
    have hkS : ((((h1.push (seqObj "list" acc.toList.toArray 0)).update h1.objs.size (Obj.mapSeq fun _ => (#[] : Array Value)))).push (seqObj "tuple" acc.toList.toArray 0)).objs.size = h1.objs.size + 2 := by rw [size_push', Heap.size_update, size_push']
    unfold ksk_tree
    refine wpAny_bind (listItems_at hoL rfl ?_)
    refine wpAny_bind (listUpdate_at hoL rfl ?_ (by rw [List.size_toArray]; exact hZ) (Nat.zero_le _))
    refine wpAny_bind (seqEpoch_at ho1 rfl ?_)
    refine wpAny_bind (wpAny_newTuple ?_ (by show acc.toList.length ≤ _; exact hZ))
    refine wpAny_bind (wpAny_newList ?_ (Nat.zero_le _))
    refine wpAny_holding ?_
    have kp : ∀ b o, h1.get? b = some o → ((((h1.push (seqObj "list" acc.toList.toArray 0)).update h1.objs.size (Obj.mapSeq fun _ => (#[] : Array Value))).push (seqObj "tuple" acc.toList.toArray 0)).push (seqObj "list" #[] 0)).get? b = some o := fun b o e => by
      refine Heap.get?_push_of_some _ (Heap.get?_push_of_some _ ?_)
      rw [Heap.get?_update_ne _ _ _ _ (Nat.ne_of_lt (Heap.lt_size e))]
      exact Heap.get?_push_of_some _ e
    have hge : h1.objs.size ≤ ((((h1.push (seqObj "list" acc.toList.toArray 0)).update h1.objs.size (Obj.mapSeq fun _ => (#[] : Array Value)))).push (seqObj "tuple" acc.toList.toArray 0)).objs.size := by omega
    have hne : ((((h1.push (seqObj "list" acc.toList.toArray 0)).update h1.objs.size (Obj.mapSeq fun _ => (#[] : Array Value)))).push (seqObj "tuple" acc.toList.toArray 0)).objs.size ≠ h1.objs.size := by omega
    refine keyJ_rest (s := { s with heap := ((((h1.push (seqObj "list" acc.toList.toArray 0)).update h1.objs.size (Obj.mapSeq fun _ => (#[] : Array Value)))).push (seqObj "tuple" acc.toList.toArray 0)).push (seqObj "list" #[] 0), toks := tk }) (kz := (List.range n).map kf)
      (J h1.objs.size ((((h1.push (seqObj "list" acc.toList.toArray 0)).update h1.objs.size (Obj.mapSeq fun _ => (#[] : Array Value)))).push (seqObj "tuple" acc.toList.toArray 0)).objs.size) (enter h1 _ _ _ _ kp1 kp (Nat.le_refl _) hge hne) (Heap.get?_push_size _ rfl)
      (Heap.get?_push_of_some _ (Heap.get?_push_of_some _ ho1)) hne (by rw [List.length_map, List.length_range, hacc]) hZ hal hsk (fun d hd => ?_)
      (fun i x ks s' hx hl js => ?_) (fun ks s' js hl => fin _ _ ks s' js (by rw [hl, hacc])) fun ks s' h' tk' out c js hl kb hD ko => ?_
    · obtain ⟨i, hi, rfl⟩ := List.mem_map.mp hd
      exact hu i (List.mem_range.mp hi)
    · obtain ⟨t', e⟩ := hi.2 i x (by rw [← hx, Array.getElem?_toList])
      have hlt : i < n := by
        have := (List.getElem?_eq_some_iff.mp hx).1
        omega
      have e' : x = .int (i : Int) t' := by rw [e]; congr 1; omega
      rw [e']
      exact turn _ _ e1 i t' ks s' hne hlt hl js
    · refine ⟨_, rfl, wpAny_pure ⟨_, rfl, ?_⟩⟩
      refine h _ _ ks s' h' tk' out c hne js (by rw [hl, hacc]) kb hD (keyedOut_each kf ko ?_)
      have all : ∀ (m : Nat) (xs : List Value), (∀ i x, xs[i]? = some x → ∃ t, x = Value.int (((m + i : Nat)) : Int) t) → EachIs (fun v (i : Nat) => ∃ t, v = Value.int (i : Int) t) xs (List.range' m xs.length) := by
        intro m xs
        induction xs generalizing m with
        | nil => intro _; exact .nil
        | cons x xs ih =>
          intro hx
          refine .cons (hx 0 x rfl) ?_
          refine ih (m + 1) fun i y e => ?_
          obtain ⟨t, z⟩ := hx (i + 1) y (by simpa using e)
          exact ⟨t, by rw [z]; congr 2; omega⟩
      have := all 0 acc.toList fun i x hx => by
        obtain ⟨t', e⟩ := hi.2 i x (by rw [← hx, Array.getElem?_toList])
        exact ⟨t', by rw [e]; congr 1; omega⟩
      rwa [hacc, ← List.range_eq_range'] at this
end
end EH

set_option maxRecDepth 100000
set_option maxHeartbeats 4000000
/-! sorted(range(e), key=lambda i: ..) in a def's body. -/
namespace EH
open PySem PySem.Spec PyProof.Rows L2 DL LamX NdefX
section
variable {X : Cx} {pins : List (Addr × Obj)} {σ : L2.St} {H : Hp} {s : Shared}
/-- behind the sort: the list's record and the keys' have turned -/
theorem inv_sorted {a kS : Addr} {h' : Heap} {t' c : Nat} {out : List Value} {xs : List V} (I : Inv X pins σ H s) (fa : FpOk X pins H a) (fk : FpOk X pins H kS) (k : ∀ b o, b ≠ a → b ≠ kS → s.heap.get? b = some o → h'.get? b = some o)
    (ha : h'.get? a = some (seqObj "list" out.toArray c)) (rv : Vals xs out) (hz : xs.length ≤ sizeLine) : Inv X pins σ (upd H a (.lst xs)) { s with heap := h', toks := t' } := by
  obtain ⟨a0, a1, a2, a3, a4, a5⟩ := fa
  obtain ⟨k0, k1, k2, k3, k4, k5⟩ := fk
  have nc : ∀ {b : Addr}, b ∉ [a, kS] → b ≠ a ∧ b ≠ kS := fun {b} z => ⟨fun e => z (by simp [e]), fun e => z (by simp [e])⟩
  have na : ∀ b u, H b = some u → b ≠ a ∧ b ≠ kS := fun b u e => ⟨fun z => (by rw [z, a0] at e; cases e), fun z => (by rw [z, k0] at e; cases e)⟩
  refine I.step (g' := s.gens) (d' := s.drawn) (ch := [a, kS]) (fun b hb => ?_) (fun b o _ _ hc e _ => k b o (nc hc).1 (nc hc).2 e) (fun b o _ _ hc e _ => ⟨o.slots, k b o (nc hc).1 (nc hc).2 e⟩) (fun b o hc e n => by rw [upd_ne (nc hc).1]; exact n)
    (fun b o hc e => ⟨o, k b o (nc hc).1 (nc hc).2 e⟩) (fun b xs e => by rw [upd_ne (na b _ e).1]; exact e) (fun b o u e => by rw [upd_ne (na b _ e).1]; exact e) (fun b ps e => ⟨#[], by rw [upd_ne (na b _ e).1, e]; simp⟩) (fun m hm => ?_) (fun b u e => ?_) I.bare
  · rcases List.mem_cons.mp hb with z | z
    · subst z; exact ⟨a3, a1, a4, a5⟩
    · have z : b = kS := by simpa using z
      subst z; exact ⟨k3, k1, k4, k5⟩
  · obtain ⟨o, es, ep, ho, r⟩ := hm
    exact ⟨o, es, ep, k _ o (Ne.symm a1) (Ne.symm k1) ho, r⟩
  · by_cases hb : b = a
    · subst hb
      rw [upd_same] at e
      cases e
      exact ⟨hz, out, c, rv, ha⟩
    · rw [upd_ne hb] at e
      refine (I.hok b u e).stay (fun d v hd q => ?_) (fun d q => by rw [upd_ne (na d _ q).1]; exact q) fun d xs q => by rw [upd_ne (na d _ q).1]; exact q
      have : d ≠ a ∧ d ≠ kS := by
        rcases hd with z | z
        · rw [z]; exact na b u e
        · exact na d _ z
      exact k d v this.1 this.2 q
/-- a lambda of the running frame is called -/
abbrev lamF (qual : Str) (params : Arguments) (scope : Scope) (cl : List (Str × Addr)) (c' : Addr) : NF := ⟨"<lambda>", qual, params, [], scope, cl, c'⟩
theorem lam_call {A : Around} {k : Nat} {N ps fr : List Str} {f c' : Addr} {qual : Str} {params : Arguments} {body : Expr} {scope : Scope} {cl : List (Str × Addr)} {pm ctv : Value} {us : List Value} {vs : List V} {ws : List (Option V)} {Q : VK} {t : TE}
    (I : Inv X pins σ H s) (e0 : Env0 X.prog X.w X.K X.mg X.base A X.stack s H) (hr : Room (k + 1) A) (ho : s.heap.get? f = some (PySem.W.kla_obj "<lambda>" qual params body scope cl pm c' ctv)) (hc : H c' = some (CodeO c' qual))
    (S : NScope N ps fr scope) (C : CellsAt cl fr ws s.heap H) (rv : Vals vs us) (hl : vs.length = ps.length)
    (hbind : bindArgs (PySem.W.kla_fn "<lambda>" qual params body scope cl pm (.ref c') ctv) ⟨us, []⟩ = pure (ps.zip us))
    (hbody : Room k (A.deeper (envF (lamF qual params scope cl c') f s.heap.objs.size)) → PE (ncx CX0 X.prog X.w X.K X.mg X.base N (lamF qual params scope cl c') f A X.stack s H E0) body t)
    (ht : t (startF N vs ws) H Q) : wpAny (model X.prog X.w) A (call (.ref f) us) (EP X pins σ Q) (fun _ _ => False) s := by
  have rc : codeAny (model X.prog X.w) A (.call (.ref f) ⟨us, []⟩) (CR CX0 X.stack X.prog X.w H s Q E0) s := by
    refine PySem.W.kla_callFunE hr.depth ho rfl S.co S.gen rfl (codeO_at I.hok hc) ?_
    rw [hbind]
    refine wpAny_pure (wpAny_newFunctionEnv S.nocell (fun ⟨n, _⟩ hy => S.par n (List.of_mem_zip hy).1) (fun h₁ hns hsb => ⟨I.nolimit.fresh _ hsb, ?_⟩) S.kind)
    show codeAny _ _ (.expr body (envF (lamF qual params scope cl c') f s.heap.objs.size)) _ _
    have kp : ∀ b o, s.heap.get? b = some o → h₁.get? b = some o := fun b o e => hsb.extBut b o (Nat.ne_of_lt (Heap.lt_size e)) (Heap.get?_push_of_some _ e)
    have J : Inv (ncx CX0 X.prog X.w X.K X.mg X.base N (lamF qual params scope cl c') f A X.stack s H E0) [] (startF N vs ws) H { s with heap := h₁, toks := s.toks + (ps.zip us).length } := inv_startN S hr.hd e0 hl rv C hns kp
    refine PySem.W.kla_codeExpr (wpAny_mono ((hbody (hr.deeper _)).run [] _ _ H Q J ht) (fun v s' hq => ?_) fun e s' hq => hq)
    obtain ⟨w', H', J', rv', q⟩ := hq
    exact ⟨w', H', J'.os, J'.bare, J'.base, J'.hok, rv', q⟩
  refine wpAny_call (codeAny_mono rc fun r s' hq => ?_)
  cases r with
  | error e => exact (show False from hq).elim
  | ok fl =>
    cases fl with
    | ret u => exact I.after hq
    | next => exact False.elim hq
    | brk => exact False.elim hq
    | cont => exact False.elim hq
/-- range(e), just made -/
theorem range_new {e : Expr} {ta : TE} {p pos : Pos} {n : Int} {Q : Value → Shared → Prop} (hg : Gl X "range") (hm : X.mg "range" = none) (ha : PE X e ta) (I : Inv X pins σ H s) {R : Hp → Prop} (h : ta σ H fun x H1 => x = .int n ∧ R H1) (na : notStar e = true)
    (hQ : ∀ (t u v : Tok) (r : Addr) (s' : Shared) (H' : Hp), Inv X pins σ H' s' → FpOk X pins H' r → IsRange s'.heap r 0 n 1 t u v → R H' → Q (.ref r) s') :
    wpAny (model X.prog X.w) X.A (eval (.Call (.Name "range" p) [e] [] pos) X.env) Q X.xe s := by
  refine Call_ (ld_blt I hg hm boot_range (PyProof.Rows.callWith_type1 (one_arg ha I h (fun v s2 x H2 I2 r q => ?_) (star_cons na)) (star_cons na)))
  obtain ⟨rfl, q⟩ := q
  obtain ⟨t, rfl⟩ := r
  have hn : H2 s2.heap.objs.size = none := I2.hok.fresh (Nat.le_refl _)
  exact call_range_1 (hQ _ _ _ _ _ H2 (I2.kept fun b u e => Heap.get?_push_of_some _ e) (I2.fpOk (Nat.le_refl _) hn) (IsRange.new _ _ _ _ _ _ _) q)
end
end EH
namespace EH
open PySem PySem.Spec PyProof.Rows L2 DL LamX NdefX
/-- what the keys made so far are -/
def KJ (X : Cx) (pins : List (Addr × Obj)) (σ : L2.St) (H1 : Hp) (f : Addr) (fo : Obj) (kd : Nat → List V) (a kS : Addr) (ks : List Value) (s' : Shared) : Prop :=
  ∃ H', Inv X pins σ H' s' ∧ Evl.Ex H1 H' ∧ FpOk X pins H' a ∧ FpOk X pins H' kS ∧ f ≠ a ∧ f ≠ kS ∧ s'.heap.get? f = some fo ∧ H' f = none ∧ ∀ (i : Nat) (u : Value), ks[i]? = some u → ∃ p, u = .ref p ∧ H' p = some (.tup (kd i))
section
variable {X : Cx} {pins : List (Addr × Obj)} {σ : L2.St} {H1 : Hp} {f : Addr} {fo : Obj} {kd : Nat → List V}
theorem kj_turn {A : Around} {a kS : Addr} {e1 i : Nat} {t : Tok} {ks : List Value} {s' : Shared} (hfd : ∀ v, fo.data ≠ .cell v) (ffs : f ∉ X.fs) (fl : f ≠ X.env.locals) (hl : ks.length = i)
    (run : ∀ (pins' : List (Addr × Obj)) (s : Shared) (H : Hp), Inv X pins' σ H s → Evl.Ex H1 H → s.heap.get? f = some fo →
      wpAny (model X.prog X.w) A (call (.ref f) [.int (i : Int) t]) (EP X pins' σ fun v H2 => Evl.Ex H H2 ∧ ∃ p, v = .ref p ∧ H2 p = some (.tup (kd i))) (fun _ _ => False) s)
    (j : KJ X pins σ H1 f fo kd a kS ks s') : TurnJ X.prog X.w A (.ref f) a kS e1 (KJ X pins σ H1 f fo kd a kS) ks (.int (i : Int) t) s' := by
  intro e nk na
  obtain ⟨H', I, ex, fa, fk, nfa, nfk, hf, nf, hk⟩ := j
  have Ip : Inv X (pins ++ [(f, fo), (kS, seqObj "list" ks.toArray e), (a, seqObj "list" #[] e1)]) σ H' s' := I.pins_of fun p hp => by
    rcases List.mem_append.mp hp with z | z
    · exact I.pin p (List.mem_append_right _ z)
    · simp only [List.mem_cons, List.not_mem_nil, or_false] at z
      rcases z with rfl | rfl | rfl
      · exact ⟨hf, nf, fl, ffs, hfd⟩
      · exact ⟨nk, fk.1, fk.2.1, fk.2.2.1, fun v z => by cases z⟩
      · exact ⟨na, fa.1, fa.2.1, fa.2.2.1, fun v z => by cases z⟩
  refine wpAny_mono (run _ s' H' Ip ex hf) (fun u s'' hq => ?_) fun _ _ h => h
  obtain ⟨v, H'', I2, rv, ex2, p, rfl, hp⟩ := hq
  obtain rfl : u = .ref p := rv
  have pf := I2.pin (f, fo) (List.mem_append_right _ (List.mem_append_right _ (by simp)))
  have pk := I2.pin (kS, seqObj "list" ks.toArray e) (List.mem_append_right _ (List.mem_append_right _ (by simp)))
  have pa := I2.pin (a, seqObj "list" #[] e1) (List.mem_append_right _ (List.mem_append_right _ (by simp)))
  refine ⟨pk.1, pa.1, H'', ?_, ex.trans ex2, ⟨pa.2.1, fa.2⟩, ⟨pk.2.1, fk.2⟩, nfa, nfk, (Heap.get?_update_ne _ _ _ _ nfk).trans pf.1, pf.2.1, fun m u hu => ?_⟩
  · exact (I2.unpinned).turned (t' := s''.toks) (fun b o hb e => (Heap.get?_update_ne _ _ _ _ hb).trans e) pk.2.1 fk.2.1 fk.2.2.2.1 fk.2.2.2.2.1 fk.2.2.2.2.2
  · by_cases hm : m < ks.length
    · rw [List.getElem?_append_left hm] at hu
      obtain ⟨q, e1, e2⟩ := hk m u hu
      exact ⟨q, e1, ex2 _ _ e2⟩
    · rw [List.getElem?_append_right (by omega)] at hu
      have hm2 : m - ks.length = 0 := by
        have := (List.getElem?_eq_some_iff.mp hu).1
        simp at this
        omega
      rw [hm2] at hu
      have hu : Value.ref p = u := by simpa using hu
      have : m = i := by omega
      subst this
      exact ⟨p, hu.symm, hp⟩
end
def tSortLam (T : List (Addr × Str)) (n : Nat) (kd : Nat → List V) (kf : Nat → PyData) (ta : TE) (js : List Nat) (Nl : List Str) (t : TE) : TE := fun σ H Q => ta σ H fun x H0 => x = .int (n : Int) ∧ Tabs T H0 ∧
  (∀ H1, ExtN H0 H1 → ∀ i, i < n → t (startF Nl [.int (i : Int)] (js.map (slotAt σ))) H1 fun v H2 => Evl.Ex H1 H2 ∧ ∃ p, v = .ref p ∧ H2 p = some (.tup (kd i))) ∧
  ∀ p H2, ExtN H0 H2 → Tabs T H2 → H2 p = some (.lst (((List.range n).mergeSort (PySem.W.dataLe false kf)).map fun (i : Nat) => V.int (i : Int))) → Q (.ref p) H2
theorem ints_of_each {out : List Value} {is : List Nat} (h : PySem.W.EachIs (fun v (i : Nat) => ∃ t, v = Value.int (i : Int) t) out is) : Vals (is.map fun (i : Nat) => V.int (i : Int)) out := by
  induction h with
  | nil => exact .nil
  | cons a _ ih => exact .cons a ih
theorem boot_sorted : bootBuiltins "sorted" = some (.builtin "sorted") := by decide +kernel
section
variable {X : Cx}
theorem pe_sortLam {T : List (Addr × Str)} {c P : Addr} {k n : Nat} {i0 : Str} {fr Nl : List Str} {js : List Nat} {kd : Nat → List V} {kf : Nat → PyData} {ta t : TE} {e : Expr} {params : Arguments} {body : Expr} {scope : Scope} {p p2 p3 lpos kpos pos : Pos}
    (hgS : Gl X "sorted") (hmS : X.mg "sorted" = none) (hgR : Gl X "range") (hmR : X.mg "range" = none) (ha : PE X e ta) (na : notStar e = true) (TB : TabB X.base X.mg c P) (hcode : X.env.code = .ref c) (hm : (P, X.env.qual ++ "<lambda>") ∈ T) (hu : ∀ p ∈ T, p.1 = P → p.2 = X.env.qual ++ "<lambda>")
    (hr : Room (k + 3) X.A) (hc : X.calm = true) (hn : n ≤ 1000) (hdef : defaultsOf params X.env = ([], [])) (S : NScope Nl [i0] fr scope) (hfree : ∀ y ∈ scope.names, y.2 = .free → X.env.scope.names.lookup y.1 = some .cell ∨ X.env.scope.names.lookup y.1 = some .free)
    (hfr : ∀ y ∈ fr, (y, NameKind.free) ∈ scope.names) (hjs : js.map (fun j => X.N[j]?) = fr.map some)
    (hbind : ∀ (q : Str) (cl : List (Str × Addr)) (pm cv ctv u : Value), bindArgs (PySem.W.kla_fn "<lambda>" q params body scope cl pm cv ctv) ⟨[u], []⟩ = pure [(i0, u)])
    (hbody : ∀ (f c' : Addr) (cl : List (Str × Addr)) (A : Around) (s : Shared) (H : Hp), Room k (A.deeper (envF (lamF (X.env.qual ++ "<lambda>") params scope cl c') f s.heap.objs.size)) → PE (ncx CX0 X.prog X.w X.K X.mg X.base Nl (lamF (X.env.qual ++ "<lambda>") params scope cl c') f A X.stack s H E0) body t)
    (hkd : ∀ i, i < n → ∀ H : Hp, DpAll X.K H (kd i) (match kf i with | .tuple ds => ds | _ => [])) (hkf : ∀ i, ∃ ds, kf i = .tuple ds) (hal : PySem.W.AllAlike ((List.range n).map kf)) (hsk : PySem.W.Sortable ((List.range n).map kf)) (hdp : ∀ i, (kf i).depth ≤ 60)
    (hall : (backToKw pos (keywordEach [⟨some "key", .Lambda params body scope lpos, kpos⟩] X.env)).all (·.1.isSome) = true := by rfl) (hnone : (backToKw pos (keywordEach [⟨some "key", .Lambda params body scope lpos, kpos⟩] X.env)).any (·.1.isNone) = false := by rfl)
    (hks : (backToKw pos (keywordEach [⟨some "key", .Lambda params body scope lpos, kpos⟩] X.env)).filterMap (·.1) = [Str.ofString "key"] := by rfl)
    (hke : (backToKw pos (keywordEach [⟨some "key", .Lambda params body scope lpos, kpos⟩] X.env)).map (·.2) = [do let v ← eval (.Lambda params body scope lpos) X.env; standAt pos; pure v] := by rfl) :
    PE X (.Call (.Name "sorted" p) [.Call (.Name "range" p2) [e] [] p3] [⟨some "key", .Lambda params body scope lpos, kpos⟩] pos) (tSortLam T n kd kf ta js Nl t) := by
  refine ⟨fun pins s σ H Q I h => ?_⟩
  have hfre : ∀ y ∈ scope.names, y.2 = .free → ∃ c, X.env.cells.lookup y.1 = some c := fun y hy e => (hfree y hy e).elim (fun z => I.ok.has _ (.inl z)) fun z => I.ok.has _ (.inr z)
  refine wpAny_Call_Name_kw (ld_blt I hgS hmS boot_sorted ?_ (by decide) (by decide))
  refine PyProof.Rows.callWith_kw (args_cons (range_new hgR hmR ha I h na fun t u v r s1 H0 I1 fp hr0 q => args_nil ?_) rfl) rfl rfl hall hnone
  obtain ⟨hT, hrun, hQ⟩ := q
  rw [hke, hks]
  have Ip : Inv X (pins ++ [(r, { cls := .type "range", dict := none, data := .fields #[.int 0 t, .int (n : Int) u, .int 1 v], slots := #[] })]) σ H0 s1 := I1.pins_of fun p hp => by
    rcases List.mem_append.mp hp with z | z
    · exact I1.pin p (List.mem_append_right _ z)
    · simp only [List.mem_cons, List.not_mem_nil, or_false] at z
      subst z
      exact ⟨hr0, fp.1, fp.2.1, fp.2.2.1, fun v z => by cases z⟩
  refine wpAny_evalAll_cons (wpAny_bind (lam_make2 Ip TB hcode hm hu hT hdef hfre fun f c' pm ctv H1 s2 I2 eN T1 hf hfn hfr2 hco => wpAny_bind (wpAny_standAt (wpAny_pure (wpAny_evalAll_nil ?_)))))
  have hr2 : IsRange s2.heap r 0 (n : Int) 1 t u v := (I2.pin (r, { cls := .type "range", dict := none, data := .fields #[.int 0 t, .int (n : Int) u, .int 1 v], slots := #[] }) (List.mem_append_right _ (List.mem_append_right _ (by simp)))).1
  have I3 : Inv X pins σ H1 s2 := I2.unpinned
  have ffs : f ∉ X.fs := fun z => by
    rcases I3.ok.stk with e | ⟨e, _⟩
    · exact hfr2 (by rw [e]; exact z)
    · refine hfr2 ?_
      rw [e]
      unfold frs
      rw [List.filterMap_cons]
      split
      · exact z
      · exact List.mem_cons_of_mem _ z
  have fl : f ≠ X.env.locals := fun z => by
    obtain ⟨m, ⟨o, es, ep, ho, hd, _⟩, _⟩ := I3.loc
    rw [← z, hf] at ho
    cases ho
    cases hd
  show wpAny _ _ (call (.builtin "sorted") [.ref r] [(Str.ofString "key", .ref f)]) _ _ _
  refine sortedJ_range (n := n) (kf := kf) (fun a kS => KJ X pins σ H1 f (PySem.W.kla_obj "<lambda>" (X.env.qual ++ "<lambda>") params body scope (cloFrom X.env.cells scope.names []) pm c' ctv) kd a kS) (I3.ok.hd hc) hr2 hn hal hsk (fun i hi => ?_) (fun h1 h' tk a kS k1 k2 ha1 hk1 hne => ?_) (fun a kS e1 i t' ks s' hne hi hl j => ?_) (fun a kS ks s' j hl => ?_) fun a kS ks s' h' tk out cc hne j hl kb hD eo => ?_
  · have h1 := hr.units
    have h2 := hdp i
    omega
  · have Ia : Inv X pins σ H1 { s2 with heap := h1 } := I3.kept (t' := s2.toks) k1
    have fl1 := Heap.lt_size (k1 _ _ hf)
    exact ⟨H1, I3.kept fun b o e => k2 _ _ (k1 _ _ e), Evl.Ex.refl H1, Ia.fpOk ha1 (Ia.hok.fresh ha1), Ia.fpOk hk1 (Ia.hok.fresh hk1), Nat.ne_of_lt (Nat.lt_of_lt_of_le fl1 ha1), Nat.ne_of_lt (Nat.lt_of_lt_of_le fl1 hk1), k2 _ _ (k1 _ _ hf), hfn, fun i u e => by simp at e⟩
  · refine kj_turn (fun v z => by cases z) ffs fl hl (fun pins' s3 H3 J ex hf3 => ?_) j
    refine lam_call (k := k) (vs := [V.int (i : Int)]) J J.env0.in1.in1 hr.in1.in1 hf3 (ex _ _ hco) S (cells_of J (Caps.made J.ok hfree hfr hjs)) (.cons ⟨t', rfl⟩ .nil) rfl (hbind _ _ _ _ _ _) (hbody _ _ _ _ _ _) ?_
    exact hrun H3 (eN.trans (ExtN.of ex)) i hi
  · obtain ⟨H', J, ex, _, _, _, _, _, _, hk⟩ := j
    have all : ∀ (m : Nat) (xs : List Value), m + xs.length ≤ n → (∀ i u, xs[i]? = some u → ∃ p, u = .ref p ∧ H' p = some (.tup (kd (m + i)))) → PySem.W.EachIs (fun v k => ∃ as, Reads s'.heap v k as) xs ((List.range' m xs.length).map kf) := by
      intro m xs
      induction xs generalizing m with
      | nil => intro _ _; exact .nil
      | cons x xs ih =>
        intro hmn hx
        rw [List.length_cons] at hmn
        refine .cons ?_ (ih (m + 1) (by omega) fun i u e => ?_)
        · obtain ⟨p, rfl, hp⟩ := hx 0 x rfl
          obtain ⟨ds, hds⟩ := hkf m
          have hd := hkd m (by omega) H'
          rw [hds] at hd ⊢
          exact Dp.reads J _ _ _ (.tup (.inl (.inl hp)) hd) rfl
        · obtain ⟨p, e1, e2⟩ := hx (i + 1) u (by simpa using e)
          exact ⟨p, e1, by rw [e2]; congr 3; omega⟩
    have := all 0 ks (by omega) fun i u e => by rw [Nat.zero_add]; exact hk i u e
    rwa [hl, ← List.range_eq_range'] at this
  · obtain ⟨H', J, ex, fa, fk, _, _, _, _, hk⟩ := j
    have hz : (((List.range n).mergeSort (PySem.W.dataLe false kf)).map fun (i : Nat) => V.int (i : Int)).length ≤ sizeLine := by
      rw [List.length_map, List.length_mergeSort, List.length_range]
      exact Nat.le_trans hn (by decide)
    have J2 : Inv X pins σ (upd H' a (.lst (((List.range n).mergeSort (PySem.W.dataLe false kf)).map fun (i : Nat) => V.int (i : Int)))) { s' with heap := h', toks := tk } :=
      inv_sorted J fa fk (fun b o hb hk e => kb b o hb ((Heap.hide_ne _ hk).trans e)) hD (ints_of_each eo) hz
    have ex2 : Evl.Ex H' (upd H' a (.lst (((List.range n).mergeSort (PySem.W.dataLe false kf)).map fun (i : Nat) => V.int (i : Int)))) := Evl.Ex.new fa.1
    refine ⟨.ref a, _, J2, rfl, hQ a _ (eN.trans (ExtN.of (ex.trans ex2))) (T1.ext (ex.trans ex2)) upd_same⟩
end
end EH

set_option maxRecDepth 100000
set_option maxHeartbeats 4000000
/-! Statements across a call that may write tables of code objects (all else that is tracked stays). -/
namespace DL
open PySem PySem.Spec PyProof.Rows L2 Evl LamX
section
variable {K : PySem.W.Frag} {H H' : Hp}
theorem seqN {a : Addr} {xs : List V} (e : ExtN H H') (h : SqL K H a xs) : SqL K H' a xs := by
  rcases h with (h | ⟨o, h⟩) | h
  · exact .inl (.inl (e _ _ h fun _ z => by cases z))
  · exact .inl (.inr ⟨o, e _ _ h fun _ z => by cases z⟩)
  · exact .inr h
theorem Rp.monoN (e : ExtN H H') {v : V} {d : D} (h : Rp K H v d) : Rp K H' v d := by
  refine Rp.rec (motive_1 := fun v d _ => Rp K H' v d) (motive_2 := fun vs ds _ => RpAll K H' vs ds) (motive_3 := fun kvs ds _ => RpKv K H' kvs ds)
    .non .bool .int .str (fun ha _ ih => .list (e _ _ ha fun _ z => by cases z) ih) (fun ha _ ih => .tup (e _ _ ha fun _ z => by cases z) ih) (fun hs => .scr (seqN e hs)) (fun ha _ ih => .dic (e _ _ ha fun _ z => by cases z) ih) (fun ha _ ih => .ins (e _ _ ha fun _ z => by cases z) ih)
    .nil (fun _ _ h1 h2 => .cons h1 h2) .nil (fun _ _ h1 h2 => .cons h1 h2) h
theorem hide_nil : Ex H (hide [] H) := fun a u e => hide_some (by simp) e
end
def noOwn : List Slot → Bool
  | [] => true
  | .own _ :: _ => false
  | _ :: ρ => noOwn ρ
theorem noOwn_at : ∀ {ρ : List Slot} {i : Nat} {ds : List D}, noOwn ρ = true → ρ[i]? ≠ some (.own ds)
  | [], _, _, _, e => by simp at e
  | .own _ :: _, _, _, h, _ => by simp [noOwn] at h
  | .no :: _, 0, _, _, e => by simp at e
  | .dat _ :: _, 0, _, _, e => by simp at e
  | .no :: ρ, i + 1, _, h, e => noOwn_at (ρ := ρ) (i := i) (by simpa [noOwn] using h) (by simpa using e)
  | .dat _ :: ρ, i + 1, _, h, e => noOwn_at (ρ := ρ) (i := i) (by simpa [noOwn] using h) (by simpa using e)
theorem hs_nil {H : Hp} : HS H [] [] H := ⟨Ex.refl H, fun _ h => h, fun _ h => by simp at h, fun _ h => by simp at h, fun _ h => by simp at h⟩
section
variable {K : PySem.W.Frag} {B H H2 : Hp} {F : List Addr} {σ : L2.St} {ρ : List Slot}
theorem ST.ground (h : ST K B [] F σ H ρ) (n : noOwn ρ = true) : ST K H [] [] σ H ρ := by
  refine ⟨hs_nil, h.len, fun i s q => ?_, fun i j ds es p hij q1 _ _ => absurd q1 (noOwn_at n)⟩
  have z := h.sl i s q
  cases s with
  | no => trivial
  | own ds => exact absurd q (noOwn_at n)
  | dat d =>
    obtain ⟨v, e, r⟩ := z
    exact ⟨v, e, (r.mono hide_sub).mono hide_nil⟩
theorem ST.groundN (h : ST K H [] [] σ H ρ) (n : noOwn ρ = true) (e : ExtN H H2) : ST K H2 [] [] σ H2 ρ := by
  refine ⟨hs_nil, h.len, fun i s q => ?_, fun i j ds es p hij q1 _ _ => absurd q1 (noOwn_at n)⟩
  have z := h.sl i s q
  cases s with
  | no => trivial
  | own ds => exact absurd q (noOwn_at n)
  | dat d =>
    obtain ⟨v, e1, r⟩ := z
    exact ⟨v, e1, ((r.mono hide_sub).monoN e).mono hide_nil⟩
end
def spN (K : PySem.W.Frag) (T : List (Addr × Str)) (R : List D → D → Prop) : Sp := fun vs H Q _ => ∃ (ds : List D) (d : D), RpAll K H vs ds ∧ R ds d ∧ Tabs T H ∧ ∀ v H2, ExtN H H2 → Tabs T H2 → Rp K H2 v d → Q v H2
structure CalN (P : Program) (w : World) (K : PySem.W.Frag) (mg : Str → Option Value) (base : Heap) (T : List (Addr × Str)) (k : Nat) (x : Str) (R : List D → D → Prop) : Prop where
  ex : ∃ f fd ps, FnOk P w K mg base CX0 k f fd ps (spN K T R) ∧ mg x = some (.ref f) ∧ PySem.W.keepIn K (.ref f) = true ∧ Binds K fd ps []
def SvT (K : PySem.W.Frag) (T : List (Addr × Str)) (t : TS) (ρ : List Slot) (d : D) : Prop := ∀ (σ : L2.St) (H : Hp), ST K H [] [] σ H ρ → Tabs T H → ∀ De : Ends, (∀ v H2, ExtN H H2 → Tabs T H2 → Rp K H2 v d → De.rt v H2) → t De σ H
section
variable {K : PySem.W.Frag} {T : List (Addr × Str)} {t u : TS} {ρ ρ1 : List Slot} {d d' : D} {ds : List D} {i : Nat} {R : List D → D → Prop}
theorem svt_seq (h1 : SvD K t ρ (.nx ρ1)) (n : noOwn ρ1 = true) (h2 : SvT K T u ρ1 d) : SvT K T (tSeq t u) ρ d := fun σ H S tb De k => h1 H [] [] σ H S { De with nx := u De } fun F' σ' H' S' =>
  h2 σ' H' (S'.ground n) (tb.ext S'.hs.ex) De fun v H2 eN tb2 r => k v H2 ((ExtN.of S'.hs.ex).trans eN) tb2 r
theorem svt_end (h : SvD K t ρ (.rt d)) : SvT K T t ρ d := fun σ H S tb De k => h H [] [] σ H S De fun v H2 e r => k v H2 (ExtN.of e) (tb.ext e) (r.mono hide_sub)
theorem svt_call {ta : TA} (n : noOwn ρ = true) (ha : EvAD K ta ρ ds) (hR : R ds d) (h : SvT K T u (ρ.set i (.dat d)) d') : SvT K T (tSeq (tAsg (tCall (spN K T R) [] E0 ta) (gName i)) u) ρ d' := fun σ H S tb De k => by
  refine ha H [] [] σ H S _ fun vs H1 e1 r1 => ?_
  rw [List.append_nil]
  refine ⟨ds, d, r1.mono hide_sub, hR, tb.ext e1, fun v H2 eN tb2 r => ?_⟩
  have eN2 : ExtN H H2 := (ExtN.of e1).trans eN
  exact h (σ.set i (some v)) H2 ((S.groundN n eN2).set (r.mono hide_nil)) tb2 De fun v' H3 eN3 tb3 r3 => k v' H3 (eN2.trans eN3) tb3 r3
end
structure SDT (X : Cx) (T : List (Addr × Str)) (st : List Stmt) (ρ : List Slot) (d : D) : Prop where
  ev : SvT X.K T (wSs X st) ρ d
section
variable {X : Cx} {T : List (Addr × Str)} {ρ ρ1 : List Slot} {d d' : D} {ds : List D} {st : Stmt} {rest : List Stmt} {R : List D → D → Prop}
theorem SDT.of {sts : List Stmt} {t : TS} (h : PSs X sts t) (q : SvT X.K T t ρ d) : SDT X T sts ρ d := ⟨fun σ H S tb De k pins s I => h.run pins s σ H De I (q σ H S tb De k)⟩
theorem sdt_cons (h1 : SD X st ρ (.nx ρ1)) (h2 : SDT X T rest ρ1 d) (n : noOwn ρ1 = true := by rfl) : SDT X T (st :: rest) ρ d := .of (pss_cons ps_w pss_w) (svt_seq h1.ev n h2.ev)
theorem sdt_end (h : SDs X rest ρ (.rt d)) : SDT X T rest ρ d := ⟨svt_end h.ev⟩
theorem sdt_call {i j k : Nat} {N : List Str} {x y : Str} {e : Expr} {es : List Expr} {px p cpos pos : Pos} (nd : N.Nodup) (c : CalN X.prog X.w X.K X.mg X.base T k x R) (hr : Room j X.A) (hk : k ≤ j) (ha : EA X (e :: es) ρ ds) (hR : R ds d) (h : SDT X T rest (ρ.set i (.dat d)) d') (n : noOwn ρ = true := by rfl)
    (hi : X.N[i]? = some y := by rfl) (hx : Loc X.env.scope y := by first | exact Or.inl rfl | exact Or.inr rfl) (hs : swapsWith (.Call (.Name x p) (e :: es) [] cpos) (some (.Name y px)) pos.line X.env = pure false := by rfl)
    (hf : X.fn y = true ∨ X.env.scope.names.lookup y = some .local := by first | exact .inl rfl | exact .inr rfl | assumption) (hX : X.N = N := by rfl) (hg : Gl X x := by rfl) (hdb : (x == ("__debug__" : Str)) = false := by decide)
    (he : notStar e = true := by rfl) (hpl : es.all notStar = true := by rfl) : SDT X T (.Assign [.Name y px] (.Call (.Name x p) (e :: es) [] cpos) pos :: rest) ρ d' := by
  obtain ⟨f, fd, ps, F, hm, hkp, hb⟩ := c.ex
  exact .of (pss_cons (ps_set (hX ▸ nd) hi hx (pe_call F (hr.mono hk) hg hm hkp hb .nil pass0 pa_w hdb (star_cons he) (star_all hpl)) hs hf) pss_w) (svt_call n ha.ev hR h.ev)
end
section
variable {P : Program} {w : World} {K : PySem.W.Frag} {mg : Str → Option Value} {base : Heap}
/-- THE RULE: a def by its body, tables and all -/
theorem fn_dataN {x qual : Str} {st : Stmt} {f : Addr} {fd : FuncData} {N ps : List Str} {k : Nat} {T : List (Addr × Str)} {R : List D → D → Prop} (F : Fun K x qual st f fd) (S : FnScope N ps (defScope st)) (len : ∀ ds d, R ds d → ds.length = ps.length)
    (body : ∀ (A : Around) (outer : List Env) (s : Shared) (H : Hp) (E : XK), Room k (A.deeper (envOfC qual (defScope st) s.heap.objs.size f fd.code)) → ∀ ds d, R ds d →
      SDT (cxOf CX0 P w K mg base N qual (defScope st) f fd.code A outer s H E).nox T (defBody st) (init N ds) d) : FnOk P w K mg base CX0 (k + 1) f fd ps (spN K T R) := by
  obtain ⟨oc, od, kV, doc, pm, an, cdv, ct, osl, rfl, lk, hcd⟩ := F.ex
  refine fn_of lk hcd S (fun vs H Q E h => ?_) fun A outer s H vs Q E hr h => ?_
  · obtain ⟨ds, d, r, hR, _⟩ := h
    rw [r.len]
    exact len ds d hR
  · obtain ⟨ds, d, r, hR, tb, q⟩ := h
    exact ⟨_, pss_w.nox, (body A outer s H E hr ds d hR).ev (L2.start N vs) H (st_init (fun a h => by simp at h) (r.mono hide_nil)) tb _ fun v H2 e tb2 r2 => q v H2 e tb2 r2⟩
end
end DL

set_option maxRecDepth 100000
set_option maxHeartbeats 4000000
/-! The law's own defs, walked: the order. -/
namespace EH
open PySem PySem.Spec PyProof.Rows L2 DL LamX NdefX
def orderK (sc : List Int) (j : Nat) : PyData := .tuple [.int (drawn sc (10 + (j : Int)) / 7), .int (j : Int)]
def orderM (sc : List Int) (n : Nat) : List Nat := (List.range n).mergeSort (PySem.W.dataLe false (orderK sc))
theorem orderM_perm (sc : List Int) (n : Nat) : (orderM sc n).Perm (List.range n) := List.mergeSort_perm _ _
def ROrder (ds : List D) (d : D) : Prop := ∃ (sc : List Int) (n : Nat), ds = [.scr sc, .int (n : Int)] ∧ sc.length ≤ 63 ∧ n ≤ 12 ∧ d = .list ((orderM sc n).map encN)
def orderT (Pt : Addr) : List (Addr × Str) := [(Pt, "_law_order" ++ ".<locals>." ++ "<lambda>")]
/-- the lambda's body, whichever its function -/
def wLam (X : Cx) (Nl : List Str) (k : Nat) (params : Arguments) (body : Expr) (scope : Scope) : TE := fun σ H Q => ∀ (f c' : Addr) (cl : List (Str × Addr)) (A : Around) (s : Shared) (H0 : Hp), Room k (A.deeper (envF (lamF (X.env.qual ++ "<lambda>") params scope cl c') f s.heap.objs.size)) →
  wE (ncx CX0 X.prog X.w X.K X.mg X.base Nl (lamF (X.env.qual ++ "<lambda>") params scope cl c') f A X.stack s H0 E0) body σ H Q
theorem ee_run {X : Cx} {e : Expr} {ρ : List Slot} {d : D} (h : EE X e ρ d) {B H : Hp} {F0 F : List Addr} {σ : L2.St} {Q : VK} (S : ST X.K B F0 F σ H ρ) (q : ∀ v H2, Evl.Ex H H2 → Rp X.K (hide F H2) v d → Q v H2) : wE X e σ H Q := h.ev B F0 F σ H S Q q
section
variable {P : Program} {w : World} {K : PySem.W.Frag} {mg : Str → Option Value} {base : Heap}
abbrev sOrder : Stmt := topS 28
abbrev nOrder : List Str := ["_law_script", "_law_many"]
theorem scOrder : FnScope nOrder ["_law_script", "_law_many"] (defScope sOrder) := ⟨rfl, rfl, rfl, by decide +kernel, rfl, by decide +kernel, by decide +kernel⟩
theorem ok_order {f c Pt : Addr} {fd : FuncData} (F : Fun K "_law_order" "_law_order" sOrder f fd) (T : Blt mg) (cD : CalD P w K mg base 1 "_law_drawn" RDrawn) (TB : TabB base mg c Pt) (hcode : fd.code = .ref c) :
    FnOk P w K mg base CX0 5 f fd ["_law_script", "_law_many"] (spN K (orderT Pt) ROrder) := by
  refine fn_dataN F scOrder (fun ds d h => ?_) (fun A outer s H E hr ds d h => ?_)
  · obtain ⟨_, _, rfl, _⟩ := h
    rfl
  · obtain ⟨sc, n, rfl, hsc, hn, rfl⟩ := h
    have kd : ∀ i, i < n → ∀ H : Hp, DpAll K H [V.int (drawn sc (10 + (i : Int)) / 7), V.int (i : Int)] (match orderK sc i with | .tuple ds => ds | _ => []) := fun i _ H => .cons (.int _) (.cons (.int _) .nil)
    refine .of (pss_one (ps_ret (pe_sortLam (X := (cxOf CX0 P w K mg base nOrder "_law_order" (defScope sOrder) f fd.code A outer s H E).nox) (T := orderT Pt) (k := 1) (n := n) (i0 := "_law_j") (fr := ["_law_script"]) (Nl := ["_law_j", "_law_script"]) (js := [0]) (kf := orderK sc)
      (kd := fun i => [V.int (drawn sc (10 + (i : Int)) / 7), V.int (i : Int)]) (t := wLam (cxOf CX0 P w K mg base nOrder "_law_order" (defScope sOrder) f fd.code A outer s H E).nox ["_law_j", "_law_script"] 1 _ _ _) (by rfl) T.sorted (by rfl) T.range pe_w (by rfl) TB hcode List.mem_cons_self
      (fun p hp _ => ?_) hr (by rfl) (by omega) (by rfl) (nscope_by (by decide +kernel)) (ndef_free (sc := defScope sOrder) (fr := ["_law_script"]) (by decide +kernel)) (ndef_fr (sc := defScope sOrder) (by decide +kernel)) (by rfl) (fun _ _ _ _ _ _ => by rfl)
      (fun f c' cl A s H hr => ⟨fun pins s' σ H' Q I q => q f c' cl A s H hr pins s' I⟩) kd (fun i => ⟨_, rfl⟩) (PySem.W.AllAlike.of fun _ _ => by simp [PySem.W.alike, PySem.W.alikeAll, orderK]) (PySem.W.Sortable.tuples fun _ => ⟨_, _, rfl⟩) (fun i => by simp [orderK, PyData.depth, PyData.depthAll])))) ?_
    · have hp : p ∈ [(Pt, _)] := hp
      rw [List.mem_singleton.mp hp]
      rfl
    · intro σ H0 S tb De k
      refine (ee_var (X := (cxOf CX0 P w K mg base nOrder "_law_order" (defScope sOrder) f fd.code A outer s H E).nox) (d := .int (n : Int)) 1).ev H0 [] [] σ H0 S _ fun v H1 e1 r1 => ⟨r1.int_inv, tb.ext e1, fun H2 e2 i hi => ?_, fun p H2 e2 t2 hp => ?_⟩
      · obtain ⟨vs, es, rs⟩ := S.dat (i := 0) (d := .scr sc) rfl
        have hsl : NdefX.slotAt σ 0 = some vs := slotAt_of es
        rw [List.map_cons, List.map_nil, hsl]
        have rs2 : Rp K (hide [] H2) vs (.scr sc) := ((((rs.mono hide_sub).mono e1)).monoN e2).mono hide_nil
        intro f' c' cl A' s' H' hr'
        have st : ST K H2 [] [] (startF ["_law_j", "_law_script"] [V.int (i : Int)] [some vs]) H2 [.dat (.int (i : Int)), .dat (.scr sc)] :=
          st_init (N := ["_law_j", "_law_script"]) (F := []) (vs := [V.int (i : Int), vs]) (ds := [.int (i : Int), .scr sc]) (fun a h => by simp at h) (.cons (.int _) (.cons rs2 .nil))
        refine ee_run (ρ := [.dat (.int (i : Int)), .dat (.scr sc)]) (d := .tup [.int (drawn sc (10 + (i : Int)) / 7), .int (i : Int)]) ?_ st fun v H3 e3 r3 => ⟨e3, ?_⟩
        · exact ee_tup (ea_cons (ee_fdiv (ee_call cD hr' (Nat.le_refl _) (ea_cons (ee_var 1) (ea_cons (ee_add ee_int (ee_var 0)) ea_nil)) ⟨sc, _, rfl, by omega, hsc, rfl⟩) ee_int) (ea_cons (ee_var 0) ea_nil))
        · obtain ⟨a, xs, rfl, hx, rx⟩ := r3.tup_inv
          obtain rfl := RpAll.ints (ns := [drawn sc (10 + (i : Int)) / 7, (i : Int)]) rx
          exact ⟨a, rfl, (hide_at hx).2⟩
      · refine k _ H2 ((ExtN.of e1).trans e2) t2 (.list hp ?_)
        have all : ∀ l : List Nat, RpAll K H2 (l.map fun (i : Nat) => V.int (i : Int)) (l.map encN) := by
          intro l
          induction l with
          | nil => exact .nil
          | cons x l ih => exact .cons (.int _) ih
        exact all _
end
end EH

set_option maxRecDepth 100000
set_option maxHeartbeats 4000000
/-! The law's own defs, walked: the rows. -/
namespace EH
open PySem PySem.Spec PyProof.Rows L2 DL LamX
structure HRow where
  name : Str
  elder : Option Str
  fields : List (Str × Str)
  heads : List HHead
def encE : Option Str → D
  | none => .non
  | some s => .str s
def encR (r : HRow) : D := .tup [.str r.name, encE r.elder, .tup (r.fields.map encP), .list (r.heads.map encH)]
def manyM (sc : List Int) : Nat := if drawn sc 0 / 6 % 8 = 1 then 12 else (1 + drawn sc 0 % 6).toNat
def namesM (sc : List Int) : List Str := (List.range (manyM sc)).map fun (k : Nat) => nameM (drawn sc 0 / 48) (k : Int)
def poolM (sc : List Int) (way : Nat) : List Str := (List.range 26).map fun (k : Nat) => nameM (drawn sc (1 + (way : Int)) / 3) (k : Int)
def elds (sc : List Int) : List (Option Nat) := eldersM sc (orderM sc (manyM sc)) (manyM sc - 1)
abbrev FT : Type := List (List (Str × Str)) × List (List Str)
def takenOf (el : List (Option Nat)) (t : List (List Str)) (j : Nat) : List Str := match el.getD j none with
  | none => t.getD j []
  | some e => t.getD e []
def stepF (sc : List Int) (el : List (Option Nat)) (pool names : List Str) (st : FT) (j : Nat) : FT :=
  (st.1.set j (fieldsM sc j (takenOf el st.2 j) pool names), st.2.set j (takenOf el st.2 j ++ (fieldsM sc j (takenOf el st.2 j) pool names).map (·.1)))
def foldF (sc : List Int) (l : List Nat) : FT := l.foldl (stepF sc (elds sc) (poolM sc 0) (namesM sc)) (List.replicate (manyM sc) [], List.replicate (manyM sc) [])
def rowAt (sc : List Int) (j : Nat) : HRow :=
  ⟨(namesM sc).getD j "", ((elds sc).getD j none).map fun e => (namesM sc).getD e "", (foldF sc (orderM sc (manyM sc))).1.getD j [], headsM sc j (poolM sc 1) (poolM sc 2) (namesM sc)⟩
def rowsM (sc : List Int) : List HRow := (List.range (manyM sc)).map (rowAt sc)
def RRows (ds : List D) (d : D) : Prop := ∃ sc : List Int, ds = [.scr sc] ∧ sc.length ≤ 63 ∧ d = .list ((rowsM sc).map encR)
/-! ### its facts -/
theorem many_le (sc : List Int) : 1 ≤ manyM sc ∧ manyM sc ≤ 12 := by
  unfold manyM
  have := mod_pos (drawn sc 0) (b := 6) (by decide)
  split
  · exact ⟨by decide, by decide⟩
  · omega
theorem order_len (sc : List Int) (n : Nat) : (orderM sc n).length = n := by rw [(orderM_perm sc n).length_eq, List.length_range]
theorem order_lt (sc : List Int) (n : Nat) : ∀ j ∈ orderM sc n, j < n := fun j hj => List.mem_range.mp ((orderM_perm sc n).mem_iff.mp hj)
theorem names_len (sc : List Int) : (namesM sc).length = manyM sc := by unfold namesM; rw [List.length_map, List.length_range]
theorem pool_len (sc : List Int) (w : Nat) : (poolM sc w).length = 26 := by unfold poolM; rw [List.length_map, List.length_range]
theorem elds_len (sc : List Int) : (elds sc).length = manyM sc := by unfold elds; rw [eldersM_len, order_len]
theorem getD_mem {α : Type} {l : List α} {i : Nat} {d : α} (h : i < l.length) : l.getD i d ∈ l := by
  rw [List.getD_eq_getElem?_getD, List.getElem?_eq_getElem h]
  exact List.getElem_mem h
theorem elderAt_mem {sc : List Int} {ord : List Nat} {p e : Nat} (hp : 0 < p) (hl : p < ord.length) (h : elderAt sc ord p = some e) : ∃ q, q < p ∧ e = ord.getD q 0 := by
  have hm := mod_pos (drawn sc (30 + (p : Int)) / 5) (b := (p : Int)) (by omega)
  unfold elderAt at h
  split at h
  · exact ⟨p - 1, by omega, (Option.some.inj h).symm⟩
  · split at h
    · exact ⟨_, by omega, (Option.some.inj h).symm⟩
    · cases h
theorem eldersM_val {sc : List Int} {ord : List Nat} : ∀ {p : Nat}, p < ord.length → ∀ {j e : Nat}, (eldersM sc ord p)[j]? = some (some e) → e ∈ ord
  | 0, _, j, e, h => by
    unfold eldersM at h
    rw [List.getElem?_replicate] at h
    split at h <;> cases h
  | p + 1, hp, j, e, h => by
    rw [eldersM] at h
    split at h
    · exact eldersM_val (by omega) h
    · rename_i e0 he
      obtain ⟨q, hq, rfl⟩ := elderAt_mem (by omega) hp he
      rcases getSet h with ⟨_, h2, _⟩ | ⟨_, h2⟩
      · cases h2
        exact getD_mem (by omega)
      · exact eldersM_val (by omega) h2
theorem elds_val {sc : List Int} {j e : Nat} (h : (elds sc).getD j none = some e) : e < manyM sc := by
  have h0 := many_le sc
  have hl := order_len sc (manyM sc)
  refine order_lt sc _ e (eldersM_val (sc := sc) (p := manyM sc - 1) (j := j) (by omega) ?_)
  unfold elds at h
  rw [List.getD_eq_getElem?_getD] at h
  cases q : (eldersM sc (orderM sc (manyM sc)) (manyM sc - 1))[j]? with
  | none => rw [q] at h; cases h
  | some o => rw [q] at h; rw [← h]; rfl
theorem fold_len (sc : List Int) : ∀ l : List Nat, (foldF sc l).1.length = manyM sc ∧ (foldF sc l).2.length = manyM sc := by
  have all : ∀ (l : List Nat) (st : FT), st.1.length = manyM sc → st.2.length = manyM sc → (l.foldl (stepF sc (elds sc) (poolM sc 0) (namesM sc)) st).1.length = manyM sc ∧ (l.foldl (stepF sc (elds sc) (poolM sc 0) (namesM sc)) st).2.length = manyM sc := by
    intro l
    induction l with
    | nil => exact fun st h1 h2 => ⟨h1, h2⟩
    | cons j l ih => exact fun st h1 h2 => ih _ (by simp only [stepF, List.length_set]; exact h1) (by simp only [stepF, List.length_set]; exact h2)
  exact fun l => all l _ List.length_replicate List.length_replicate
theorem fold_snoc (sc : List Int) (l : List Nat) (j : Nat) : foldF sc (l ++ [j]) = stepF sc (elds sc) (poolM sc 0) (namesM sc) (foldF sc l) j := by
  unfold foldF
  rw [List.foldl_append]
  rfl
theorem set_same {α : Type} {l : List α} {i : Nat} {d : α} : l.set i (l.getD i d) = l := by
  apply List.ext_getElem?
  intro k
  by_cases h : k = i
  · subst h
    by_cases hl : k < l.length
    · rw [List.getElem?_set_self hl, List.getD_eq_getElem?_getD, List.getElem?_eq_getElem hl]
      rfl
    · rw [List.getElem?_eq_none (by rw [List.length_set]; omega), List.getElem?_eq_none (by omega)]
  · rw [List.getElem?_set_ne (fun z => h z.symm)]
theorem at_enc {α : Type} {l : List α} {j : Nat} {d : α} (f : α → D) (h : j < l.length) : atI (l.map f) (j : Int) = some (f (l.getD j d)) := by
  have := at_map (d := d) f (Int.natCast_nonneg j) (by omega : (j : Int) < l.length)
  rwa [Int.toNat_natCast] at this
theorem takenOf_len {el : List (Option Nat)} {t : List (List Str)} {j b : Nat} (h : ∀ x ∈ t, x.length ≤ b) : (takenOf el t j).length ≤ b := by
  have all : ∀ i, (t.getD i []).length ≤ b := fun i => by
    by_cases hi : i < t.length
    · exact h _ (getD_mem hi)
    · rw [List.getD_eq_getElem?_getD, List.getElem?_eq_none (by omega)]
      exact Nat.zero_le _
  unfold takenOf
  split <;> exact all _
theorem fieldsM_len (sc : List Int) (j : Nat) (tk pool names : List Str) : (fieldsM sc j tk pool names).length ≤ 5 := by
  unfold fieldsM
  rw [List.length_map]
  refine Nat.le_trans (List.length_filter_le _ _) ?_
  rw [List.length_range]
  have := mod_pos (drawn sc (50 + (j : Int))) (b := 5) (by decide)
  omega
theorem fold_tk (sc : List Int) (l : List Nat) : ∀ x ∈ (foldF sc l).2, x.length ≤ 5 * l.length := by
  have all : ∀ (l : List Nat) (st : FT) (b : Nat), (∀ x ∈ st.2, x.length ≤ b) → ∀ x ∈ (l.foldl (stepF sc (elds sc) (poolM sc 0) (namesM sc)) st).2, x.length ≤ b + 5 * l.length := by
    intro l
    induction l with
    | nil => exact fun st b h x hx => h x hx
    | cons j l ih =>
      intro st b h x hx
      have := ih _ (b + 5) (fun y hy => ?_) x hx
      · rw [List.length_cons]; omega
      · rcases List.mem_or_eq_of_mem_set hy with q | q
        · have := h y q; omega
        · rw [q, List.length_append, List.length_map]
          have h1 := takenOf_len (el := elds sc) (j := j) h
          have h2 := fieldsM_len sc j (takenOf (elds sc) st.2 j) (poolM sc 0) (namesM sc)
          omega
  have := all l (List.replicate (manyM sc) [], List.replicate (manyM sc) []) 0 (fun x hx => by rw [(List.mem_replicate.mp hx).2]; exact Nat.zero_le _)
  rw [Nat.zero_add] at this
  exact this
def encF (fs : List (Str × Str)) : D := .tup (fs.map encP)
section
variable {P : Program} {w : World} {K : PySem.W.Frag} {mg : Str → Option Value} {base : Heap}
def stVal : Stmt → Expr
  | .Assign _ e _ => e
  | _ => .Constant .none 0 ⟨0, 0, 0, 0⟩
def compScope : Expr → Scope
  | .ListComp _ _ s _ => s
  | _ => defScope (.Pass ⟨0, 0, 0, 0⟩)
abbrev sRows : Stmt := topS 34
abbrev nRows : List Str := ["_law_script", "_law_first", "_law_many", "_law_names", "_law_pools", "_law_order_here", "_law_elders", "_law_fields_here", "_law_taken", "_law_j", "_law_rows_here", "_law_elder", "_law_way", "_law_k", "_law_name_here", "_law_field"]
theorem scRows : FnScope nRows ["_law_script"] (defScope sRows) := ⟨rfl, rfl, rfl, by decide +kernel, rfl, by decide +kernel, by decide +kernel⟩
def scPools : Scope := compScope (stVal ((defBody sRows).getD 3 (.Pass ⟨0, 0, 0, 0⟩)))
theorem ok_rows {f Pt : Addr} {fd : FuncData} (F : Fun K "_law_rows" "_law_rows" sRows f fd) (T : Blt mg) (cD : CalD P w K mg base 1 "_law_drawn" RDrawn) (cN : CalD P w K mg base 1 "_law_name" RName) (cO : CalN P w K mg base (orderT Pt) 5 "_law_order" ROrder)
    (cE : CalD P w K mg base 2 "_law_elders_drawn" RElders) (cF : CalD P w K mg base 2 "_law_fields" RFields) (cH : CalD P w K mg base 3 "_law_heads" RHeads) : FnOk P w K mg base CX0 6 f fd ["_law_script"] (spN K (orderT Pt) RRows) := by
  refine fn_dataN F scRows (fun ds d h => ?_) (fun A outer s H E hr ds d h => ?_)
  · obtain ⟨_, rfl, _⟩ := h
    rfl
  · obtain ⟨sc, rfl, hsc, rfl⟩ := h
    obtain ⟨hm1, hm2⟩ := many_le sc
    have h6 := mod_pos (drawn sc 0) (b := 6) (by decide)
    have h8 := mod_pos (drawn sc 0 / 6) (b := 8) (by decide)
    refine sdt_cons (sd_set (i := 1) scRows.nd (ee_call cD hr (by decide) (ea_cons (ee_var 0) (ea_cons ee_int ea_nil)) ⟨sc, _, rfl, by decide, hsc, rfl⟩)) ?_
    refine sdt_cons (ρ1 := [.dat (.scr sc), .dat (.int (drawn sc 0)), .dat (.int (manyM sc : Int)), .no, .no, .no, .no, .no, .no, .no, .no, .no, .no, .no, .no, .no])
      (sd_set (i := 2) scRows.nd (ee_ixL (EN.ee (en_lst (ea_cons (ee_add ee_int (ee_mod (ee_var 1) ee_int)) (ea_cons ee_int ea_nil)))) (ee_intB T.int (ee_eqI (ee_mod (ee_fdiv (ee_var 1) ee_int) ee_int) ee_int)) ?_)) ?_
    · unfold manyM
      by_cases h : drawn sc 0 / 6 % 8 = 1
      · rw [decide_eq_true h, if_pos h]
        rfl
      · rw [decide_eq_false h, if_neg h, Int.toNat_of_nonneg (by omega)]
        rfl
    refine sdt_cons (ρ1 := [.dat (.scr sc), .dat (.int (drawn sc 0)), .dat (.int (manyM sc : Int)), .dat (.list ((namesM sc).map D.str)), .no, .no, .no, .no, .no, .no, .no, .no, .no, .no, .no, .no])
      (sd_to (sd_frozen (sd_setLc1 (i := 3) (as := List.range (manyM sc)) (e := fun (k : Nat) => .str (nameM (drawn sc 0 / 48) (k : Int))) (fun (i : Nat) => .int (i : Int)) 9 scRows.nd (blkOk_by (N := nRows) (sc := defScope sRows) (by decide +kernel))
        ((ie_rng1 T.range (ee_var 2) (by omega) (by omega)).to (by rw [Int.toNat_natCast])) (by rw [List.length_range]; omega) (fun k hk s H0 C cl fp => ee_call cN hr (by decide) (ea_cons (ee_fdiv (ee_var 1) ee_int) (ea_cons (ee_var 9) ea_nil)) ⟨_, _, rfl, by have := List.mem_range.mp hk; omega, rfl⟩)) (i := 3)) ?_) ?_
    · show Oc.nx _ = _
      unfold namesM
      rw [List.map_map]
      rfl
    refine sdt_cons (ρ1 := [.dat (.scr sc), .dat (.int (drawn sc 0)), .dat (.int (manyM sc : Int)), .dat (.list ((namesM sc).map D.str)), .dat (.list [encPool (poolM sc 0), encPool (poolM sc 1), encPool (poolM sc 2)]), .no, .no, .no, .no, .no, .no, .no, .no, .no, .no, .no])
      (sd_to (sd_frozen (sd_setLc1 (i := 4) (as := List.range 3) (e := fun (k : Nat) => encPool (poolM sc k)) (fun (i : Nat) => .int (i : Int)) 12 scRows.nd (blkOk_by (N := nRows) (sc := defScope sRows) (by decide +kernel))
        (ie_rng1 T.range ee_int (by decide) (by decide)) (by decide) (fun way hw s H0 C cl fp => EN.ee (en_is (en_lc1 (as := List.range 26) (e := fun (k : Nat) => .str (nameM (drawn sc (1 + (way : Int)) / 3) (k : Int))) (fun (i : Nat) => .int (i : Int)) 13 scRows.nd
          (blkOk_by (N := nRows) (sc := relS scPools (defScope sRows)) (by decide +kernel)) (ie_rng1 T.range ee_int (by decide) (by decide)) (by decide)
          (fun k hk s H0 C cl fp => ee_call cN hr (by decide) (ea_cons (ee_fdiv (ee_call cD hr (by decide) (ea_cons (ee_var 0) (ea_cons (ee_add ee_int (ee_var 12)) ea_nil)) ⟨sc, _, rfl, by have := List.mem_range.mp hw; omega, hsc, rfl⟩) ee_int) (ea_cons (ee_var 13) ea_nil)) ⟨_, _, rfl, by have := List.mem_range.mp hk; omega, rfl⟩)) ?_))) (i := 4)) ?_) ?_
    · unfold poolM
      rw [List.map_map]
      rfl
    · rfl
    refine sdt_call (i := 5) scRows.nd cO hr (by decide) (ea_cons (ee_var 0) (ea_cons (ee_var 2) ea_nil)) ⟨sc, manyM sc, rfl, hsc, hm2, rfl⟩ ?_
    refine sdt_end ?_
    have hol := order_len sc (manyM sc)
    refine sds_cons (sd_set (i := 6) scRows.nd (ee_call cE hr (by decide) (ea_cons (ee_var 0) (ea_cons (ee_var 5) ea_nil)) ⟨sc, orderM sc (manyM sc), rfl, hsc, by omega, fun j hj => by rw [hol]; exact order_lt sc _ j hj, rfl⟩)) ?_
    refine sds_from (ρ1 := [.dat (.scr sc), .dat (.int (drawn sc 0)), .dat (.int (manyM sc : Int)), .dat (.list ((namesM sc).map D.str)), .dat (.list [encPool (poolM sc 0), encPool (poolM sc 1), encPool (poolM sc 2)]), .dat (.list ((orderM sc (manyM sc)).map encN)), .dat (.list ((elds sc).map encO)), .no, .no, .no, .no, .no, .no, .no, .no, .no]) ?_ (by unfold elds; rw [hol]; rfl)
    refine sds_cons (ρ1 := [.dat (.scr sc), .dat (.int (drawn sc 0)), .dat (.int (manyM sc : Int)), .dat (.list ((namesM sc).map D.str)), .dat (.list [encPool (poolM sc 0), encPool (poolM sc 1), encPool (poolM sc 2)]), .dat (.list ((orderM sc (manyM sc)).map encN)), .dat (.list ((elds sc).map encO)), .own ((List.replicate (manyM sc) ([] : List (Str × Str))).map encF), .no, .no, .no, .no, .no, .no, .no, .no])
      (sd_to (sd_setN (i := 7) scRows.nd (en_rep (EN.ee (en_lst (ea_cons (ee_tup ea_nil) ea_nil))) (ee_var 2) (by omega) (by omega))) (by rw [List.map_replicate, Int.toNat_natCast]; rfl)) ?_
    refine sds_cons (ρ1 := [.dat (.scr sc), .dat (.int (drawn sc 0)), .dat (.int (manyM sc : Int)), .dat (.list ((namesM sc).map D.str)), .dat (.list [encPool (poolM sc 0), encPool (poolM sc 1), encPool (poolM sc 2)]), .dat (.list ((orderM sc (manyM sc)).map encN)), .dat (.list ((elds sc).map encO)), .own ((List.replicate (manyM sc) ([] : List (Str × Str))).map encF), .own ((List.replicate (manyM sc) ([] : List Str)).map encPool), .no, .no, .no, .no, .no, .no, .no])
      (sd_to (sd_setLc1 (i := 8) (as := namesM sc) (e := fun _ => encPool []) D.str 14 scRows.nd (blkOk_by (N := nRows) (sc := defScope sRows) (by decide +kernel)) (ie_list (ee_var 3)) (by rw [names_len]; omega) (fun k hk s H0 C cl fp => EN.ee (en_lst ea_nil))) (by
        simp only [List.map_const', List.map_replicate, names_len]
        rfl)) ?_
    refine sds_cons (ρ1 := [.dat (.scr sc), .dat (.int (drawn sc 0)), .dat (.int (manyM sc : Int)), .dat (.list ((namesM sc).map D.str)), .dat (.list [encPool (poolM sc 0), encPool (poolM sc 1), encPool (poolM sc 2)]), .dat (.list ((orderM sc (manyM sc)).map encN)), .dat (.list ((elds sc).map encO)), .own ((foldF sc (orderM sc (manyM sc))).1.map encF), .own ((foldF sc (orderM sc (manyM sc))).2.map encPool), .no, .no, .no, .no, .no, .no, .no])
      (sd_for1 (as := orderM sc (manyM sc)) (P := fun pre => [.dat (.scr sc), .dat (.int (drawn sc 0)), .dat (.int (manyM sc : Int)), .dat (.list ((namesM sc).map D.str)), .dat (.list [encPool (poolM sc 0), encPool (poolM sc 1), encPool (poolM sc 2)]), .dat (.list ((orderM sc (manyM sc)).map encN)), .dat (.list ((elds sc).map encO)), .own ((foldF sc pre).1.map encF), .own ((foldF sc pre).2.map encPool), .no, .no, .no, .no, .no, .no, .no]) 9 encN scRows.nd (ie_list (ee_var 5)) rfl (fun pre j post e => ?_)) ?_
    · have hj : j < manyM sc := order_lt sc _ j (by rw [e]; simp)
      obtain ⟨l1, l2⟩ := fold_len sc pre
      have l3 := fold_tk sc pre
      have lpre : pre.length < 12 := by
        have := congrArg List.length e
        simp at this
        omega
      rw [fold_snoc]
      generalize foldF sc pre = st at l1 l2 l3
      obtain ⟨sf, stk⟩ := st
      have l1 : sf.length = manyM sc := l1
      have l2 : stk.length = manyM sc := l2
      have le := elds_len sc
      refine sds_less (i := 9) (ρ1 := [.dat (.scr sc), .dat (.int (drawn sc 0)), .dat (.int (manyM sc : Int)), .dat (.list ((namesM sc).map D.str)), .dat (.list [encPool (poolM sc 0), encPool (poolM sc 1), encPool (poolM sc 2)]), .dat (.list ((orderM sc (manyM sc)).map encN)), .dat (.list ((elds sc).map encO)),
        .own ((stepF sc (elds sc) (poolM sc 0) (namesM sc) (sf, stk) j).1.map encF), .own ((stepF sc (elds sc) (poolM sc 0) (namesM sc) (sf, stk) j).2.map encPool), .dat (encN j), .no, .no, .no, .no, .no, .no]) ?_
      unfold stepF
      generalize ht : takenOf (elds sc) stk j = tk
      show SDs _ _ _ (.nx [_, _, _, _, _, _, _, .own ((sf.set j (fieldsM sc j tk (poolM sc 0) (namesM sc))).map encF), .own ((stk.set j (tk ++ (fieldsM sc j tk (poolM sc 0) (namesM sc)).map (·.1))).map encPool), _, _, _, _, _, _, _])
      have hfl := fieldsM_len sc j tk (poolM sc 0) (namesM sc)
      have htl : tk.length ≤ 5 * pre.length := by rw [← ht]; exact takenOf_len l3
      refine sds_cons (ρ1 := [.dat (.scr sc), .dat (.int (drawn sc 0)), .dat (.int (manyM sc : Int)), .dat (.list ((namesM sc).map D.str)), .dat (.list [encPool (poolM sc 0), encPool (poolM sc 1), encPool (poolM sc 2)]), .dat (.list ((orderM sc (manyM sc)).map encN)), .dat (.list ((elds sc).map encO)),
        .own (sf.map encF), .own ((stk.set j tk).map encPool), .dat (encN j), .no, .no, .no, .no, .no, .no]) ?_ ?_
      · have hix := at_enc (d := none) encO (by omega : j < (elds sc).length)
        cases he : (elds sc).getD j none with
        | none =>
          rw [he] at hix
          have : tk = stk.getD j [] := by rw [← ht]; unfold takenOf; rw [he]
          rw [this, set_same]
          exact sd_ifF (et_is (et_notN (ee_ixL (ee_var 6) (ee_var 9) hix)) rfl) sds_nil
        | some x =>
          rw [he] at hix
          have hx := elds_val he
          have : tk = stk.getD x [] := by rw [← ht]; unfold takenOf; rw [he]
          rw [this, List.map_set]
          exact sd_ifT (et_is (et_notN (ee_ixL (ee_var 6) (ee_var 9) hix)) rfl) (sds_one (sd_sub (i := 8) (EN.ee (en_list T.list (ee_ixOwn 8 (ee_ixL (ee_var 6) (ee_var 9) hix) (at_enc (d := []) encPool (by omega))))) (ee_var 9) rfl (by rw [List.length_map]; omega)))
      have hlt : (stk.set j tk).length = manyM sc := by rw [List.length_set]; exact l2
      have gett : (stk.set j tk).getD j [] = tk := by rw [List.getD_eq_getElem?_getD, List.getElem?_set_self (by omega)]; rfl
      have hatk := at_enc (d := []) encPool (by omega : j < (stk.set j tk).length)
      rw [gett] at hatk
      refine sds_cons (sd_sub (i := 7) (j := j) (ds := sf.map encF) (d := encF (fieldsM sc j tk (poolM sc 0) (namesM sc))) (ee_call cF hr (by decide) (ea_cons (ee_var 0) (ea_cons (ee_var 9) (ea_cons (ee_ixOwn 8 (ee_var 9) hatk) (ea_cons (ee_ixL (d := encPool (poolM sc 0)) (ee_var 4) ee_int (by rfl)) (ea_cons (ee_var 3) ea_nil)))))
        ⟨sc, j, tk, poolM sc 0, namesM sc, rfl, hsc, by omega, pool_len sc 0, by rw [names_len]; exact hm2, rfl⟩) (ee_var 9) rfl (by rw [List.length_map]; omega)) ?_
      refine sds_from (ρ1 := [.dat (.scr sc), .dat (.int (drawn sc 0)), .dat (.int (manyM sc : Int)), .dat (.list ((namesM sc).map D.str)), .dat (.list [encPool (poolM sc 0), encPool (poolM sc 1), encPool (poolM sc 2)]), .dat (.list ((orderM sc (manyM sc)).map encN)), .dat (.list ((elds sc).map encO)),
        .own ((sf.set j (fieldsM sc j tk (poolM sc 0) (namesM sc))).map encF), .own ((stk.set j tk).map encPool), .dat (encN j), .no, .no, .no, .no, .no, .no]) ?_ (by rw [List.map_set]; rfl)
      have hlf : (sf.set j (fieldsM sc j tk (poolM sc 0) (namesM sc))).length = manyM sc := by rw [List.length_set]; exact l1
      have getf : (sf.set j (fieldsM sc j tk (poolM sc 0) (namesM sc))).getD j [] = fieldsM sc j tk (poolM sc 0) (namesM sc) := by rw [List.getD_eq_getElem?_getD, List.getElem?_set_self (by omega)]; rfl
      have hatf := at_enc (d := []) encF (by omega : j < (sf.set j (fieldsM sc j tk (poolM sc 0) (namesM sc))).length)
      rw [getf] at hatf
      refine sds_to (sds_one (sd_sub (i := 8) (j := j) (ds := (stk.set j tk).map encPool) (d := encPool (tk ++ (fieldsM sc j tk (poolM sc 0) (namesM sc)).map (·.1))) (EN.ee (en_is (en_cat (ee_ixOwn 8 (ee_var 9) hatk) (EN.ee (en_lc1 (as := fieldsM sc j tk (poolM sc 0) (namesM sc)) (e := fun p => .str p.1) encP 15 scRows.nd (blkOk_by (N := nRows) (sc := defScope sRows) (by decide +kernel))
        (ie_tup (ee_ixOwn 7 (ee_var 9) hatf)) (by omega) (fun p hp s H0 C cl fp => ee_ixT (ee_var 15) ee_int))) ?_) ?_)) (ee_var 9) rfl (by rw [List.length_map, hlt]; exact hj))) ?_
      · rw [List.length_map, List.length_map]
        omega
      · rw [List.map_append, List.map_map]
        rfl
      · show Oc.nx [_, _, _, _, _, _, _, _, .own (((stk.set j tk).map encPool).set j (encPool (tk ++ _))), _, _, _, _, _, _, _] = _
        rw [← List.map_set, List.set_set]
    obtain ⟨l1, l2⟩ := fold_len sc (orderM sc (manyM sc))
    have le := elds_len sc
    have ln := names_len sc
    generalize hfo : foldF sc (orderM sc (manyM sc)) = st at l1 l2
    obtain ⟨sf, stk⟩ := st
    have l1 : sf.length = manyM sc := l1
    refine sds_cons (sd_setN (i := 10) scRows.nd (en_lst ea_nil)) ?_
    refine sds_cons (ρ1 := [.dat (.scr sc), .dat (.int (drawn sc 0)), .dat (.int (manyM sc : Int)), .dat (.list ((namesM sc).map D.str)), .dat (.list [encPool (poolM sc 0), encPool (poolM sc 1), encPool (poolM sc 2)]), .dat (.list ((orderM sc (manyM sc)).map encN)), .dat (.list ((elds sc).map encO)), .own (sf.map encF), .own (stk.map encPool), .no, .own ((rowsM sc).map encR), .no, .no, .no, .no, .no])
      (sd_for1 (as := List.range (manyM sc)) (P := fun pre => [.dat (.scr sc), .dat (.int (drawn sc 0)), .dat (.int (manyM sc : Int)), .dat (.list ((namesM sc).map D.str)), .dat (.list [encPool (poolM sc 0), encPool (poolM sc 1), encPool (poolM sc 2)]), .dat (.list ((orderM sc (manyM sc)).map encN)), .dat (.list ((elds sc).map encO)), .own (sf.map encF), .own (stk.map encPool), .no, .own ((pre.map (rowAt sc)).map encR), .no, .no, .no, .no, .no]) 9 encN scRows.nd
        ((ie_rng1 T.range (ee_var 2) (by omega) (by omega)).to (by rw [Int.toNat_natCast]; rfl)) rfl (fun pre j post e => ?_)) ?_
    · obtain ⟨e1, hlt, _⟩ := range_at e
      have hj : j < manyM sc := by omega
      rw [List.map_append, List.map_append]
      generalize hg : (pre.map (rowAt sc)).map encR = xs
      have hxl : xs.length ≤ 12 := by
        rw [← hg, List.length_map, List.length_map]
        omega
      refine sds_less (i := 9) (ρ1 := [.dat (.scr sc), .dat (.int (drawn sc 0)), .dat (.int (manyM sc : Int)), .dat (.list ((namesM sc).map D.str)), .dat (.list [encPool (poolM sc 0), encPool (poolM sc 1), encPool (poolM sc 2)]), .dat (.list ((orderM sc (manyM sc)).map encN)), .dat (.list ((elds sc).map encO)), .own (sf.map encF), .own (stk.map encPool), .dat (encN j), .own (xs ++ _), .no, .no, .no, .no, .no]) ?_
      refine sds_less (i := 11) (ρ1 := [.dat (.scr sc), .dat (.int (drawn sc 0)), .dat (.int (manyM sc : Int)), .dat (.list ((namesM sc).map D.str)), .dat (.list [encPool (poolM sc 0), encPool (poolM sc 1), encPool (poolM sc 2)]), .dat (.list ((orderM sc (manyM sc)).map encN)), .dat (.list ((elds sc).map encO)), .own (sf.map encF), .own (stk.map encPool), .dat (encN j), .own (xs ++ _), .dat (encE (rowAt sc j).elder), .no, .no, .no, .no]) ?_
      have hix := at_enc (d := none) encO (by omega : j < (elds sc).length)
      refine sds_cons (sd_set (i := 11) (d := encE (rowAt sc j).elder) scRows.nd ?_) ?_
      · cases he : (elds sc).getD j none with
        | none =>
          rw [he] at hix
          have : (rowAt sc j).elder = none := by unfold rowAt; rw [he]; rfl
          rw [this]
          exact ee_if (et_isN (ee_ixL (ee_var 6) (ee_var 9) hix)) (fun _ => ee_non) (fun z => nomatch z)
        | some x =>
          rw [he] at hix
          have hx := elds_val he
          have : (rowAt sc j).elder = some ((namesM sc).getD x "") := by unfold rowAt; rw [he]; rfl
          rw [this]
          exact ee_if (et_isN (ee_ixL (ee_var 6) (ee_var 9) hix)) (fun z => nomatch z) (fun _ => ee_ixL (ee_var 3) (ee_ixL (ee_var 6) (ee_var 9) hix) (at_enc (d := ("" : Str)) D.str (by omega)))
      · have hf : (rowAt sc j).fields = sf.getD j [] := by unfold rowAt; rw [hfo]
        have hrow : encR (rowAt sc j) = .tup [.str ((namesM sc).getD j ""), encE (rowAt sc j).elder, encF (sf.getD j []), .list ((headsM sc j (poolM sc 1) (poolM sc 2) (namesM sc)).map encH)] := by
          unfold encR
          rw [hf]
          rfl
        refine sds_one (sd_app (i := 10) (d := encR (rowAt sc j)) ?_ (by omega))
        rw [hrow]
        exact ee_tup (ea_cons (ee_ixL (ee_var 3) (ee_var 9) (at_enc (d := ("" : Str)) D.str (by omega))) (ea_cons (ee_var 11) (ea_cons (ee_ixOwn 7 (ee_var 9) (at_enc (d := []) encF (by omega)))
          (ea_cons (ee_call cH hr (by decide) (ea_cons (ee_var 0) (ea_cons (ee_var 9) (ea_cons (ee_var 4) (ea_cons (ee_var 3) ea_nil)))) ⟨sc, j, poolM sc 0, poolM sc 1, poolM sc 2, namesM sc, rfl, hsc, by omega, pool_len sc 1, pool_len sc 2, by omega, rfl⟩) ea_nil))))
    · exact sds_freeze 10 (by rfl) (sds_ret (sd_ret (ee_var 10)))
end
end EH

set_option maxRecDepth 100000
set_option maxHeartbeats 4000000
/-! The halls: their data, their methods walked. -/
namespace EH
open PySem PySem.Spec PyProof.Rows L2 DL
/-! ### targets -/
section
variable {X : Cx} {ρ : List DL.Slot} {K : PySem.W.Frag}
theorem pg2 {i j : Nat} {x y : Str} {p1 p2 pos : Pos} {k : Nat} {N : List Str} (nd : N.Nodup) (hi : X.N[i]? = some x := by rfl) (hj : X.N[j]? = some y := by rfl) (hx : Loc X.env.scope x := by first | exact Or.inl rfl | exact Or.inr rfl) (hy : Loc X.env.scope y := by first | exact Or.inl rfl | exact Or.inr rfl)
    (fx : X.fn x = true ∨ X.env.scope.names.lookup x = some .local := by first | exact .inl rfl | exact .inr rfl) (fy : X.fn y = true ∨ X.env.scope.names.lookup y = some .local := by first | exact .inl rfl | exact .inr rfl) (hX : X.N = N := by rfl) (hc : X.calm = true := by rfl) : PG X (.Tuple [.Name x p1, .Name y p2] k pos) (gTup X.K 2 (gCons (gName i) (gCons (gName j) gNil))) :=
  pg_tup hc (pgs_cons (pg_name (hX ▸ nd) hi hx fx) (pgs_cons (pg_name (hX ▸ nd) hj hy fy) pgs_nil))
theorem tg2 {i j : Nat} {d e : D} : TgD K (gTup K 2 (gCons (gName i) (gCons (gName j) gNil))) ρ (.tup [d, e]) ((ρ.set i (.dat d)).set j (.dat e)) [i, j] := tg_tup (tgs_cons (tgs_cons tgs_nil)) rfl
end
/-! ### the hall -/
def encS (s : Str) : D := .str s
def nameL (rows : List HRow) : List Str := rows.map (·.name)
def hallF (rows : List HRow) : List (Str × D) :=
  [("order", .list ((nameL rows).map D.str)), ("above", .dic (rows.map fun r => (r.name, encE r.elder))), ("own", .dic (rows.map fun r => (r.name, .list (r.fields.map encP)))), ("heads", .dic (rows.map fun r => (r.name, .list (r.heads.map encH))))]
def hallD (C : Addr) (rows : List HRow) : D := .ins C (hallF rows)
def elNext : Option Str → (Str → List Str) → List Str
  | none, _ => []
  | some e, el => e :: el e
def SOk (s : Str) : Prop := PyData.strOk s = true
structure Hs (rows : List HRow) (el : Str → List Str) : Prop where
  len : rows.length ≤ 12
  nd : (nameL rows).Nodup
  fl : ∀ r ∈ rows, r.fields.length ≤ 5
  hl : ∀ r ∈ rows, r.heads.length ≤ 8
  up : ∀ r ∈ rows, ∀ e, r.elder = some e → ∃ q ∈ rows, q.name = e
  elq : ∀ r ∈ rows, el r.name = elNext r.elder el
  ell : ∀ r ∈ rows, (el r.name).length ≤ 12
  okn : ∀ r ∈ rows, SOk r.name
  okf : ∀ r ∈ rows, ∀ p ∈ r.fields, SOk p.1 ∧ SOk p.2
  okh : ∀ r ∈ rows, ∀ h ∈ r.heads, SOk h.word ∧ SOk h.kind ∧ ∀ p ∈ h.params, SOk p.1 ∧ SOk p.2
  pl : ∀ r ∈ rows, ∀ h ∈ r.heads, h.params.length ≤ 5
def rowOf (rows : List HRow) (h : Str) : HRow := (rows.find? fun r => decide (r.name = h)).getD ⟨"", none, [], []⟩
section
variable {rows : List HRow} {el : Str → List Str}
theorem nd_same (nd : (nameL rows).Nodup) {r q : HRow} (hr : r ∈ rows) (hq : q ∈ rows) (e : r.name = q.name) : r = q := by
  induction rows with
  | nil => cases hr
  | cons a rows ih =>
    have nd' := List.nodup_cons.mp nd
    have hm : ∀ {x : HRow}, x ∈ rows → x.name ∈ nameL rows := fun h => List.mem_map.mpr ⟨_, h, rfl⟩
    rcases List.mem_cons.mp hr with h1 | h1
    · rcases List.mem_cons.mp hq with h2 | h2
      · rw [h1, h2]
      · exact absurd (hm h2) (by rw [← e, h1]; exact nd'.1)
    · rcases List.mem_cons.mp hq with h2 | h2
      · exact absurd (hm h1) (by rw [e, h2]; exact nd'.1)
      · exact ih nd'.2 h1 h2
theorem rowOf_of (nd : (nameL rows).Nodup) {r : HRow} (hr : r ∈ rows) : rowOf rows r.name = r := by
  unfold rowOf
  cases e : rows.find? fun q => decide (q.name = r.name) with
  | none =>
    have := List.find?_eq_none.mp e r hr
    simp at this
  | some q =>
    have h1 := List.find?_some e
    have h2 := List.mem_of_find?_eq_some e
    exact nd_same nd h2 hr (by simpa using h1)
theorem look_row {α : Type} (f : HRow → α) : ∀ {rows : List HRow}, (nameL rows).Nodup → ∀ {r : HRow}, r ∈ rows → (rows.map fun r => (r.name, f r)).lookup r.name = some (f r)
  | [], _, _, h => by cases h
  | a :: rows, nd, r, h => by
    have nd' := List.nodup_cons.mp nd
    rw [List.map_cons, List.lookup_cons]
    rcases List.mem_cons.mp h with e | h
    · subst e
      simp
    · have : (r.name == a.name) = false := by
        simp
        exact fun e => nd'.1 (show a.name ∈ nameL rows from e ▸ List.mem_map.mpr ⟨r, h, rfl⟩)
      rw [this]
      exact look_row f nd'.2 h
theorem Hs.mem (H : Hs rows el) {h : Str} (hh : h ∈ nameL rows) : ∃ r ∈ rows, r.name = h := by
  obtain ⟨r, hr, e⟩ := List.mem_map.mp hh
  exact ⟨r, hr, e⟩
theorem el_head (H : Hs rows el) {r : HRow} (hr : r ∈ rows) : r.elder = (el r.name)[0]? := by
  rw [H.elq r hr]
  cases r.elder <;> rfl
theorem el_next (H : Hs rows el) : ∀ (i : Nat) {r : HRow}, r ∈ rows → ∀ {e : Str}, (el r.name)[i]? = some e → ∃ q ∈ rows, q.name = e ∧ q.elder = (el r.name)[i + 1]?
  | 0, r, hr, e, h => by
    have h1 := el_head H hr
    rw [h] at h1
    obtain ⟨q, hq, rfl⟩ := H.up r hr e h1
    refine ⟨q, hq, rfl, ?_⟩
    rw [H.elq r hr, h1, el_head H hq]
    rfl
  | i + 1, r, hr, e, h => by
    cases he : r.elder with
    | none =>
      rw [H.elq r hr, he] at h
      cases h
    | some e0 =>
      obtain ⟨q, hq, rfl⟩ := H.up r hr e0 he
      have e1 : el r.name = q.name :: el q.name := by rw [H.elq r hr, he]; rfl
      rw [e1] at h ⊢
      exact el_next H i hq (by simpa using h)
theorem el_mem (H : Hs rows el) {r : HRow} (hr : r ∈ rows) {e : Str} (h : e ∈ el r.name) : ∃ q ∈ rows, q.name = e := by
  obtain ⟨i, hi⟩ := List.mem_iff_getElem?.mp h
  obtain ⟨q, hq, e, _⟩ := el_next H i hr hi
  exact ⟨q, hq, e⟩
theorem up_mem (H : Hs rows el) {r : HRow} (hr : r ∈ rows) {o : Str} (h : o ∈ r.name :: el r.name) : ∃ q ∈ rows, q.name = o := by
  rcases List.mem_cons.mp h with e | h
  · exact ⟨r, hr, e.symm⟩
  · exact el_mem H hr h
end
/-! ### what the methods answer -/
def fieldsH (rows : List HRow) (el : Str → List Str) (h : Str) : List (Str × Str) := ((h :: el h).reverse).flatMap fun o => (rowOf rows o).fields
def ixOf (xs : List Str) (w : Str) : Option Nat := xs.findIdx? fun x => decide (x = w)
def placeH (rows : List HRow) (el : Str → List Str) (h f : Str) : Option Nat := ixOf ((fieldsH rows el h).map (·.1)) f
def foundL (rows : List HRow) (w : Str) : List Str → Option (Str × Nat)
  | [] => none
  | o :: os => match ixOf ((rowOf rows o).heads.map (·.word)) w with
    | some k => some (o, k)
    | none => foundL rows w os
def foundH (rows : List HRow) (el : Str → List Str) (h w : Str) : Option (Str × Nat) := foundL rows w (h :: el h)
def noHead : HHead := ⟨"", [], ""⟩
def headH (rows : List HRow) (el : Str → List Str) (h w : Str) : Option HHead := (foundH rows el h w).map fun p => (rowOf rows p.1).heads.getD p.2 noHead
def encFd : Option (Str × Nat) → D
  | none => .non
  | some p => .tup [.str p.1, .int (p.2 : Int)]
def encHd : Option HHead → D
  | none => .non
  | some h => .tup [.tup (h.params.map encP), .str h.kind]
def RElders2 (C : Addr) (ds : List D) (d : D) : Prop := ∃ rows el h, ds = [hallD C rows, .str h] ∧ Hs rows el ∧ h ∈ nameL rows ∧ d = .list ((el h).map D.str)
def RYounger (C : Addr) (ds : List D) (d : D) : Prop := ∃ rows el h, ds = [hallD C rows, .str h] ∧ Hs rows el ∧ d = .list (((nameL rows).filter fun o => decide (h ∈ el o)).map D.str)
def RFieldsH (C : Addr) (ds : List D) (d : D) : Prop := ∃ rows el h, ds = [hallD C rows, .str h] ∧ Hs rows el ∧ h ∈ nameL rows ∧ d = .list ((fieldsH rows el h).map encP)
def RPlace (C : Addr) (ds : List D) (d : D) : Prop := ∃ rows el h f, ds = [hallD C rows, .str h, .str f] ∧ Hs rows el ∧ h ∈ nameL rows ∧ d = encO (placeH rows el h f)
def RFound (C : Addr) (ds : List D) (d : D) : Prop := ∃ rows el h w, ds = [hallD C rows, .str h, .str w] ∧ Hs rows el ∧ h ∈ nameL rows ∧ d = encFd (foundH rows el h w)
def RHead (C : Addr) (ds : List D) (d : D) : Prop := ∃ rows el h w, ds = [hallD C rows, .str h, .str w] ∧ Hs rows el ∧ h ∈ nameL rows ∧ d = encHd (headH rows el h w)
def RHouses (C : Addr) (ds : List D) (d : D) : Prop := ∃ rows, ds = [hallD C rows] ∧ d = .list ((nameL rows).map D.str)
/-- what of the text the class must have -/
structure HC (K : PySem.W.Frag) (C : Addr) : Prop where
  cls : Cls K C
  order : NoAttr K C "order"
  above : NoAttr K C "above"
  own : NoAttr K C "own"
  heads : NoAttr K C "heads"
theorem ixOf_none {xs : List Str} {w : Str} (h : ixOf xs w = none) : ∀ x ∈ xs, x ≠ w := fun x hx e => by
  have := List.findIdx?_eq_none_iff.mp h x hx
  simp [e] at this
theorem ixOf_some {xs : List Str} {w : Str} {k : Nat} (h : ixOf xs w = some k) : xs[k]? = some w ∧ ∀ j, j < k → xs[j]? ≠ some w := by
  obtain ⟨hk, h1, h2⟩ := List.findIdx?_eq_some_iff_getElem.mp h
  refine ⟨by rw [List.getElem?_eq_getElem hk]; simpa using h1, fun j hj e => ?_⟩
  obtain ⟨hl, e⟩ := List.getElem?_eq_some_iff.mp e
  have := h2 j hj
  simp [e] at this
theorem range_split {n k : Nat} (h : k < n) : ∃ post, List.range n = List.range k ++ k :: post := by
  refine ⟨(List.range n).drop (k + 1), ?_⟩
  have h1 : List.range k = (List.range n).take k := by rw [List.take_range, Nat.min_eq_left (Nat.le_of_lt h)]
  have h2 : (List.range n).drop k = k :: (List.range n).drop (k + 1) := by
    rw [List.drop_eq_getElem_cons (by rw [List.length_range]; exact h), List.getElem_range]
  rw [h1, ← h2, List.take_append_drop]
theorem found_split {rows : List HRow} {w : Str} : ∀ {l : List Str} {p : Str × Nat}, foundL rows w l = some p → ∃ pre post, l = pre ++ p.1 :: post ∧ (∀ o ∈ pre, ixOf ((rowOf rows o).heads.map (·.word)) w = none) ∧ ixOf ((rowOf rows p.1).heads.map (·.word)) w = some p.2
  | [], _, h => by cases h
  | o :: os, p, h => by
    unfold foundL at h
    split at h
    · rename_i k hk
      cases h
      exact ⟨[], os, rfl, (fun o h => by cases h), hk⟩
    · rename_i hk
      obtain ⟨pre, post, e, h1, h2⟩ := found_split h
      refine ⟨o :: pre, post, by rw [e]; rfl, fun q hq => ?_, h2⟩
      rcases List.mem_cons.mp hq with z | z
      · rw [z]; exact hk
      · exact h1 q z
theorem found_none {rows : List HRow} {w : Str} : ∀ {l : List Str}, foundL rows w l = none → ∀ o ∈ l, ixOf ((rowOf rows o).heads.map (·.word)) w = none
  | [], _, _, h => by cases h
  | o :: os, h, q, hq => by
    unfold foundL at h
    split at h
    · cases h
    · rename_i hk
      rcases List.mem_cons.mp hq with z | z
      · rw [z]; exact hk
      · exact found_none h q z
/-! ### the walks -/
def methOf (cls : Stmt) (i : Nat) : Stmt := match cls with
  | .ClassDef _ _ _ b .. => b.getD i (.Pass ⟨0, 0, 0, 0⟩)
  | _ => .Pass ⟨0, 0, 0, 0⟩
abbrev sHall : Stmt := topS 2
section
variable {P : Program} {w : World} {K : PySem.W.Frag} {mg : Str → Option Value} {base : Heap}
theorem look_o {rows : List HRow} : (hallF rows).lookup ("order" : Str) = some (D.list ((nameL rows).map D.str)) := by rfl
theorem look_a {rows : List HRow} : (hallF rows).lookup ("above" : Str) = some (D.dic (rows.map fun r => (r.name, encE r.elder))) := by rfl
theorem look_w {rows : List HRow} : (hallF rows).lookup ("own" : Str) = some (D.dic (rows.map fun r => (r.name, .list (r.fields.map encP)))) := by rfl
theorem look_h {rows : List HRow} : (hallF rows).lookup ("heads" : Str) = some (D.dic (rows.map fun r => (r.name, .list (r.heads.map encH)))) := by rfl
/-! houses -/
abbrev mHouses : Stmt := methOf sHall 1
theorem scHouses : FnScope ["self"] ["self"] (defScope mHouses) := ⟨rfl, rfl, rfl, by decide +kernel, rfl, by decide +kernel, by decide +kernel⟩
theorem ok_houses {f C : Addr} {fd : FuncData} (F : Fun K "houses" "Hall.houses" mHouses f fd) (T : Blt mg) (c : HC K C) : FnOk P w K mg base CX0 1 f fd ["self"] (spD K (RHouses C)) := by
  refine fn_data F scHouses (fun ds d h => ?_) (fun cdv A outer s H E hr ds d h => ?_)
  · obtain ⟨_, rfl, _⟩ := h
    rfl
  · obtain ⟨rows, rfl, rfl⟩ := h
    exact sds_ret (sd_ret (EN.ee (en_list T.list (ee_fld (ee_var 0) c.cls c.order look_o))))
/-! elders -/
abbrev mElders : Stmt := methOf sHall 2
abbrev nEldersH : List Str := ["self", "house", "found", "one"]
theorem scEldersH : FnScope nEldersH ["self", "house"] (defScope mElders) := ⟨rfl, rfl, rfl, by decide +kernel, rfl, by decide +kernel, by decide +kernel⟩
theorem ok_eldersH {f C : Addr} {fd : FuncData} (F : Fun K "elders" "Hall.elders" mElders f fd) (T : Blt mg) (c : HC K C) : FnOk P w K mg base CX0 1 f fd ["self", "house"] (spD K (RElders2 C)) := by
  refine fn_data F scEldersH (fun ds d h => ?_) (fun cdv A outer s H E hr ds d h => ?_)
  · obtain ⟨_, _, _, rfl, _⟩ := h
    rfl
  · obtain ⟨rows, el, h, rfl, R, hh, rfl⟩ := h
    obtain ⟨r, hr2, rfl⟩ := R.mem hh
    have hl := R.ell r hr2
    refine sds_cons (sd_setN (i := 2) scEldersH.nd (en_lst ea_nil)) ?_
    refine sds_cons (ρ1 := [.dat (hallD C rows), .dat (.str r.name), .own (((el r.name).take 0).map D.str), .dat (encE (el r.name)[0]?)])
      (sd_to (sd_set (i := 3) scEldersH.nd (ee_ixD hr (ee_fld (ee_var 0) c.cls c.above look_a) (ee_var 1) (look_row (fun r => encE r.elder) R.nd hr2))) (by rw [el_head R hr2]; rfl)) ?_
    refine sds_cons (sd_while (P := fun i => [.dat (hallD C rows), .dat (.str r.name), .own (((el r.name).take i).map D.str), .dat (encE (el r.name)[i]?)]) (n := (el r.name).length) rfl (fun i hi => ⟨?_, ?_⟩) ?_) ?_
    · rw [List.getElem?_eq_getElem hi]
      exact et_is (et_notN (ee_var 3)) rfl
    · obtain ⟨q, hq, e1, e2⟩ := el_next R i hr2 (List.getElem?_eq_getElem hi)
      rw [List.getElem?_eq_getElem hi, ← e2, List.take_succ_eq_append_getElem hi, List.map_append]
      have hxl : (((el r.name).take i).map D.str).length ≤ 12 := by
        rw [List.length_map, List.length_take]
        omega
      have e3 : encE (some (el r.name)[i]) = .str q.name := by rw [e1]; rfl
      rw [e3]
      have e4 : D.str (el r.name)[i] = .str q.name := by rw [e1]
      rw [List.map_cons, e4]
      generalize ((el r.name).take i).map D.str = xs at hxl
      refine sds_cons (sd_app (i := 2) (ds := xs) (ee_var 3) (by omega)) ?_
      exact sds_one (sd_set (i := 3) scEldersH.nd (ee_ixD hr (ee_fld (ee_var 0) c.cls c.above look_a) (ee_var 3) (look_row (fun r => encE r.elder) R.nd hq)))
    · rw [List.getElem?_eq_none (Nat.le_refl _)]
      exact et_is (et_notN (ee_var 3)) rfl
    · refine sds_from (ρ1 := [.dat (hallD C rows), .dat (.str r.name), .own ((el r.name).map D.str), .dat (encE (el r.name)[(el r.name).length]?)]) (sds_freeze 2 (by rfl) (sds_ret (sd_ret (ee_var 2)))) (by rw [List.take_length])
/-! younger -/
abbrev mYounger : Stmt := methOf sHall 3
abbrev nYounger : List Str := ["self", "house", "one"]
theorem scYounger : FnScope nYounger ["self", "house"] (defScope mYounger) := ⟨rfl, rfl, rfl, by decide +kernel, rfl, by decide +kernel, by decide +kernel⟩
theorem ok_younger {f C : Addr} {fd : FuncData} (F : Fun K "younger" "Hall.younger" mYounger f fd) (T : Blt mg) (c : HC K C) (cE : MetD P w K mg base 1 C "elders" (RElders2 C)) : FnOk P w K mg base CX0 2 f fd ["self", "house"] (spD K (RYounger C)) := by
  refine fn_data F scYounger (fun ds d h => ?_) (fun cdv A outer s H E hr ds d h => ?_)
  · obtain ⟨_, _, _, rfl, _⟩ := h
    rfl
  · obtain ⟨rows, el, h, rfl, R, rfl⟩ := h
    refine sds_ret (sd_ret (EN.ee (en_lcIf (as := nameL rows) (f := fun o => decide (h ∈ el o)) (e := D.str) D.str 2 scYounger.nd (blkOk_by (N := nYounger) (sc := defScope mYounger) (by decide +kernel)) (ie_list (ee_fld (ee_var 0) c.cls c.order look_o)) ?_ (fun o ho => ⟨fun s H0 C cl fp => ?_, fun s H0 C cl fp => ee_var 2⟩))))
    · unfold nameL
      rw [List.length_map]
      have := R.len
      omega
    · exact et_in (ee_var 1) (ee_meth cE hr (by decide) (ee_var 0) (by rfl) (ea_cons (ee_var 2) ea_nil) ⟨rows, el, o, rfl, R, ho, rfl⟩)
/-! fields -/
abbrev mFields : Stmt := methOf sHall 4
abbrev nFieldsH : List Str := ["self", "house", "found", "one"]
theorem scFieldsH : FnScope nFieldsH ["self", "house"] (defScope mFields) := ⟨rfl, rfl, rfl, by decide +kernel, rfl, by decide +kernel, by decide +kernel⟩
theorem fm_len {rows : List HRow} {el : Str → List Str} (R : Hs rows el) : ∀ {l : List Str}, (∀ o ∈ l, ∃ q ∈ rows, q.name = o) → (l.flatMap fun o => (rowOf rows o).fields).length ≤ 5 * l.length
  | [], _ => Nat.zero_le _
  | o :: l, h => by
    rw [List.flatMap_cons, List.length_append, List.length_cons]
    have h1 := fm_len R (l := l) fun q hq => h q (List.mem_cons_of_mem _ hq)
    obtain ⟨q, hq, e⟩ := h o List.mem_cons_self
    have h2 := R.fl q hq
    rw [← e, rowOf_of R.nd hq]
    omega
theorem ok_fieldsH {f C : Addr} {fd : FuncData} (F : Fun K "fields" "Hall.fields" mFields f fd) (T : Blt mg) (c : HC K C) (cE : MetD P w K mg base 1 C "elders" (RElders2 C)) : FnOk P w K mg base CX0 2 f fd ["self", "house"] (spD K (RFieldsH C)) := by
  refine fn_data F scFieldsH (fun ds d h => ?_) (fun cdv A outer s H E hr ds d h => ?_)
  · obtain ⟨_, _, _, rfl, _⟩ := h
    rfl
  · obtain ⟨rows, el, h, rfl, R, hh, rfl⟩ := h
    obtain ⟨r, hr2, rfl⟩ := R.mem hh
    have hl := R.ell r hr2
    refine sds_cons (sd_setN (i := 2) scFieldsH.nd (en_lst ea_nil)) ?_
    refine sds_cons (sd_for1 (as := (r.name :: el r.name).reverse) (P := fun pre => [.dat (hallD C rows), .dat (.str r.name), .own ((pre.flatMap fun o => (rowOf rows o).fields).map encP), .no]) 3 D.str scFieldsH.nd
      ((ie_rev T.reversed (EN.ee (en_cat (EN.ee (en_lst (ea_cons (ee_var 1) ea_nil))) (ee_meth cE hr (by decide) (ee_var 0) (by rfl) (ea_cons (ee_var 1) ea_nil) ⟨rows, el, r.name, rfl, R, hh, rfl⟩) (by rw [List.length_map]; show 1 + _ ≤ _; omega)))).to (by rw [List.map_reverse]; rfl)) rfl (fun pre o post e => ?_)) ?_
    · have all : ∀ q ∈ (r.name :: el r.name).reverse, ∃ x ∈ rows, x.name = q := fun q hq => up_mem R hr2 (List.mem_reverse.mp hq)
      obtain ⟨q, hq, rfl⟩ := all o (by rw [e]; simp)
      have hp := fm_len R (l := pre) fun x hx => all x (by rw [e]; simp [hx])
      have hpl : pre.length ≤ 13 := by
        have := congrArg List.length e
        simp at this
        omega
      have hq5 := R.fl q hq
      rw [List.flatMap_append, List.map_append, List.flatMap_cons, List.flatMap_nil, List.append_nil, rowOf_of R.nd hq]
      generalize hg : (pre.flatMap fun o => (rowOf rows o).fields).map encP = xs
      have hxl : xs.length ≤ 65 := by
        rw [← hg, List.length_map]
        omega
      refine sds_less (i := 3) (ρ1 := [.dat (hallD C rows), .dat (.str r.name), .own (xs ++ _), .dat (.str q.name)]) (sds_one ?_)
      exact sd_ext (i := 2) (ee_ixD hr (ee_fld (ee_var 0) c.cls c.own look_w) (ee_var 3) (look_row (fun r => D.list (r.fields.map encP)) R.nd hq)) (by rw [List.length_map]; omega)
    · exact sds_freeze 2 (by rfl) (sds_ret (sd_ret (ee_var 2)))
/-! place -/
abbrev mPlace : Stmt := methOf sHall 5
abbrev nPlace : List Str := ["self", "house", "field", "spot", "row"]
theorem scPlace : FnScope nPlace ["self", "house", "field"] (defScope mPlace) := ⟨rfl, rfl, rfl, by decide +kernel, rfl, by decide +kernel, by decide +kernel⟩
theorem fieldsH_len {rows : List HRow} {el : Str → List Str} (R : Hs rows el) {r : HRow} (hr : r ∈ rows) : (fieldsH rows el r.name).length ≤ 65 := by
  unfold fieldsH
  have h1 := fm_len R (l := (r.name :: el r.name).reverse) fun q hq => up_mem R hr (List.mem_reverse.mp hq)
  rw [List.length_reverse, List.length_cons] at h1
  have := R.ell r hr
  omega
def noP : Str × Str := ("", "")
def enumD {α : Type} (f : α → D) (xs : List α) (d : α) (i : Nat) : D := .tup [.int (i : Int), f (xs.getD i d)]
theorem enum_eq {α : Type} (f : α → D) (xs : List α) (d : α) : ((List.range (xs.map f).length).map fun (i : Nat) => D.tup [.int (i : Int), (xs.map f).getD i .non]) = (List.range xs.length).map (enumD f xs d) := by
  rw [List.length_map]
  apply List.map_congr_left
  intro i hi
  have hi := List.mem_range.mp hi
  unfold enumD
  rw [List.getD_eq_getElem?_getD, List.getElem?_map, List.getD_eq_getElem?_getD, List.getElem?_eq_getElem hi]
  rfl
theorem getD_map {α β : Type} {xs : List α} {i : Nat} {d : α} (f : α → β) (h : i < xs.length) : (xs.map f)[i]? = some (f (xs.getD i d)) := by
  rw [List.getElem?_map, List.getD_eq_getElem?_getD, List.getElem?_eq_getElem h]
  rfl
theorem ok_place {f C : Addr} {fd : FuncData} (F : Fun K "place" "Hall.place" mPlace f fd) (T : Blt mg) (c : HC K C) (cF : MetD P w K mg base 2 C "fields" (RFieldsH C)) : FnOk P w K mg base CX0 3 f fd ["self", "house", "field"] (spD K (RPlace C)) := by
  refine fn_data F scPlace (fun ds d h => ?_) (fun cdv A outer s H E hr ds d h => ?_)
  · obtain ⟨_, _, _, _, rfl, _⟩ := h
    rfl
  · obtain ⟨rows, el, h, fw, rfl, R, hh, rfl⟩ := h
    obtain ⟨r, hr2, rfl⟩ := R.mem hh
    have hl := fieldsH_len R hr2
    unfold placeH
    generalize hfs : fieldsH rows el r.name = fs at hl
    cases hix : ixOf (fs.map (·.1)) fw with
    | none =>
      have no := ixOf_none hix
      refine sds_cons (ρ1 := [.dat (hallD C rows), .dat (.str r.name), .dat (.str fw), .no, .no])
        (sd_for (as := List.range fs.length) (P := fun _ => [.dat (hallD C rows), .dat (.str r.name), .dat (.str fw), .no, .no]) (enumD encP fs noP) (pg2 (i := 3) (j := 4) scPlace.nd) ((ie_enum T.enumerate (ee_meth cF hr (by decide) (ee_var 0) (by rfl) (ea_cons (ee_var 1) ea_nil) ⟨rows, el, r.name, rfl, R, hh, rfl⟩)).to (by rw [hfs]; exact enum_eq encP fs _)) rfl
          (fun pre i post e => ⟨_, _, tg2, ?_⟩)) ?_
      · obtain ⟨e1, hlt, _⟩ := range_at e
        have hi : i < fs.length := by omega
        have hne := no _ (List.mem_of_getElem? (getD_map (d := noP) (·.1) hi))
        refine sds_less (i := 3) (ρ1 := [.dat (hallD C rows), .dat (.str r.name), .dat (.str fw), .dat (.int (i : Int)), .no]) ?_
        refine sds_less (i := 4) (ρ1 := [.dat (hallD C rows), .dat (.str r.name), .dat (.str fw), .dat (.int (i : Int)), .dat (encP (fs.getD i noP))]) ?_
        exact sds_one (sd_ifF (et_is (et_eqS (ee_ixT (ee_var 4) ee_int) (ee_var 2)) (decide_eq_false hne)) sds_nil)
      · exact sds_ret (sd_ret ee_non)
    | some k =>
      obtain ⟨hk, hno⟩ := ixOf_some hix
      have hkl : k < fs.length := by
        have := (List.getElem?_eq_some_iff.mp hk).1
        rwa [List.length_map] at this
      obtain ⟨post0, hsp⟩ := range_split hkl
      refine sds_ret (sd_forR (List.range k) k post0 (enumD encP fs noP) (fun _ => [.dat (hallD C rows), .dat (.str r.name), .dat (.str fw), .no, .no]) (pg2 (i := 3) (j := 4) scPlace.nd) ((ie_enum T.enumerate (ee_meth cF hr (by decide) (ee_var 0) (by rfl) (ea_cons (ee_var 1) ea_nil) ⟨rows, el, r.name, rfl, R, hh, rfl⟩)).to (by rw [hfs, ← hsp]; exact enum_eq encP fs _)) rfl
          (fun pre i post e => ⟨_, _, tg2, ?_⟩) ⟨_, _, tg2, ?_⟩)
      · obtain ⟨e1, hlt, _⟩ := range_at e
        have hi : i < fs.length := by omega
        have hne := hno i (by omega)
        rw [getD_map (d := noP) (·.1) hi] at hne
        refine sds_less (i := 3) (ρ1 := [.dat (hallD C rows), .dat (.str r.name), .dat (.str fw), .dat (.int (i : Int)), .no]) ?_
        refine sds_less (i := 4) (ρ1 := [.dat (hallD C rows), .dat (.str r.name), .dat (.str fw), .dat (.int (i : Int)), .dat (encP (fs.getD i noP))]) ?_
        exact sds_one (sd_ifF (et_is (et_eqS (ee_ixT (ee_var 4) ee_int) (ee_var 2)) (decide_eq_false (fun z => hne (congrArg some z)))) sds_nil)
      · rw [getD_map (d := noP) (·.1) hkl] at hk
        exact sds_ret (sd_ifT (et_is (et_eqS (ee_ixT (ee_var 4) ee_int) (ee_var 2)) (decide_eq_true (Option.some.inj hk))) (sds_ret (sd_ret (ee_var 3))))
/-! found -/
abbrev mFound : Stmt := methOf sHall 6
abbrev nFound : List Str := ["self", "house", "word", "one", "number", "row"]
theorem scFound : FnScope nFound ["self", "house", "word"] (defScope mFound) := ⟨rfl, rfl, rfl, by decide +kernel, rfl, by decide +kernel, by decide +kernel⟩
theorem ok_found {f C : Addr} {fd : FuncData} (F : Fun K "found" "Hall.found" mFound f fd) (T : Blt mg) (c : HC K C) (cE : MetD P w K mg base 1 C "elders" (RElders2 C)) : FnOk P w K mg base CX0 2 f fd ["self", "house", "word"] (spD K (RFound C)) := by
  refine fn_data F scFound (fun ds d h => ?_) (fun cdv A outer s H E hr ds d h => ?_)
  · obtain ⟨_, _, _, _, rfl, _⟩ := h
    rfl
  · obtain ⟨rows, el, h, wd, rfl, R, hh, rfl⟩ := h
    obtain ⟨r, hr2, rfl⟩ := R.mem hh
    have hl := R.ell r hr2
    have all : ∀ q ∈ (r.name :: el r.name), ∃ x ∈ rows, x.name = q := fun q hq => up_mem R hr2 hq
    unfold foundH
    -- one house: nothing found there
    have none1 : ∀ (q : HRow), q ∈ rows → ixOf (q.heads.map (·.word)) wd = none → ∀ {st : Stmt}, st = (match mFound with | .FunctionDef _ _ b .. => (match b.getD 0 (.Pass ⟨0, 0, 0, 0⟩) with | .For _ _ b2 .. => b2.getD 0 (.Pass ⟨0, 0, 0, 0⟩) | x => x) | x => x) →
        SD (cxOf CX0 P w K mg base nFound "Hall.found" (defScope mFound) f cdv A outer s H E).nox st [.dat (hallD C rows), .dat (.str r.name), .dat (.str wd), .dat (.str q.name), .no, .no] (.nx [.dat (hallD C rows), .dat (.str r.name), .dat (.str wd), .dat (.str q.name), .no, .no]) := by
      rintro q hq hn st rfl
      have no := ixOf_none hn
      refine sd_for (as := List.range q.heads.length) (P := fun _ => [.dat (hallD C rows), .dat (.str r.name), .dat (.str wd), .dat (.str q.name), .no, .no]) (enumD encH q.heads noHead) (pg2 (i := 4) (j := 5) scFound.nd)
        ((ie_enum T.enumerate (ee_ixD hr (ee_fld (ee_var 0) c.cls c.heads look_h) (ee_var 3) (look_row (fun r => D.list (r.heads.map encH)) R.nd hq))).to (enum_eq encH q.heads noHead)) rfl (fun pre i post e => ⟨_, _, tg2, ?_⟩)
      obtain ⟨e1, hlt, _⟩ := range_at e
      have hi : i < q.heads.length := by omega
      have hne := no _ (List.mem_of_getElem? (getD_map (d := noHead) (·.word) hi))
      refine sds_less (i := 4) (ρ1 := [.dat (hallD C rows), .dat (.str r.name), .dat (.str wd), .dat (.str q.name), .dat (.int (i : Int)), .no]) ?_
      refine sds_less (i := 5) (ρ1 := [.dat (hallD C rows), .dat (.str r.name), .dat (.str wd), .dat (.str q.name), .dat (.int (i : Int)), .dat (encH (q.heads.getD i noHead))]) ?_
      exact sds_one (sd_ifF (et_is (et_eqS (ee_ixT (ee_var 5) ee_int) (ee_var 2)) (decide_eq_false hne)) sds_nil)
    cases hfd : foundL rows wd (r.name :: el r.name) with
    | none =>
      have no := found_none hfd
      refine sds_cons (ρ1 := [.dat (hallD C rows), .dat (.str r.name), .dat (.str wd), .no, .no, .no])
        (sd_for1 (as := r.name :: el r.name) (P := fun _ => [.dat (hallD C rows), .dat (.str r.name), .dat (.str wd), .no, .no, .no]) 3 D.str scFound.nd
          (ie_list (EN.ee (en_cat (EN.ee (en_lst (ea_cons (ee_var 1) ea_nil))) (ee_meth cE hr (by decide) (ee_var 0) (by rfl) (ea_cons (ee_var 1) ea_nil) ⟨rows, el, r.name, rfl, R, hh, rfl⟩) (by rw [List.length_map]; show 1 + _ ≤ _; omega)))) rfl (fun pre o post e => ?_)) ?_
      · obtain ⟨q, hq, rfl⟩ := all o (by rw [e]; simp)
        have hn := no q.name (by rw [e]; simp)
        rw [rowOf_of R.nd hq] at hn
        exact sds_less (i := 3) (sds_one (none1 q hq hn rfl))
      · exact sds_ret (sd_ret ee_non)
    | some p =>
      obtain ⟨o0, k⟩ := p
      obtain ⟨pre0, post0, e0, hno, hk⟩ := found_split hfd
      have e0 : r.name :: el r.name = pre0 ++ o0 :: post0 := e0
      obtain ⟨q0, hq0, rfl⟩ := all o0 (by rw [e0]; simp)
      have hk : ixOf ((rowOf rows q0.name).heads.map (·.word)) wd = some k := hk
      rw [rowOf_of R.nd hq0] at hk
      obtain ⟨hk1, hk2⟩ := ixOf_some hk
      have hkl : k < q0.heads.length := by
        have := (List.getElem?_eq_some_iff.mp hk1).1
        rwa [List.length_map] at this
      obtain ⟨post1, hsp⟩ := range_split hkl
      refine sds_ret (sd_for1R 3 pre0 q0.name post0 D.str (fun _ => [.dat (hallD C rows), .dat (.str r.name), .dat (.str wd), .no, .no, .no]) scFound.nd
          ((ie_list (EN.ee (en_cat (EN.ee (en_lst (ea_cons (ee_var 1) ea_nil))) (ee_meth cE hr (by decide) (ee_var 0) (by rfl) (ea_cons (ee_var 1) ea_nil) ⟨rows, el, r.name, rfl, R, hh, rfl⟩) (by rw [List.length_map]; show 1 + _ ≤ _; omega)))).to (by rw [← e0]; rfl)) rfl (fun pre o post e => ?_) ?_)
      · obtain ⟨q, hq, rfl⟩ := all o (by rw [e0, e]; simp)
        have hn := hno q.name (by rw [e]; simp)
        rw [rowOf_of R.nd hq] at hn
        exact sds_less (i := 3) (sds_one (none1 q hq hn rfl))
      · refine sds_ret (sd_forR (List.range k) k post1 (enumD encH q0.heads noHead) (fun _ => [.dat (hallD C rows), .dat (.str r.name), .dat (.str wd), .dat (.str q0.name), .no, .no]) (pg2 (i := 4) (j := 5) scFound.nd)
          ((ie_enum T.enumerate (ee_ixD hr (ee_fld (ee_var 0) c.cls c.heads look_h) (ee_var 3) (look_row (fun r => D.list (r.heads.map encH)) R.nd hq0))).to (by rw [← hsp]; exact enum_eq encH q0.heads noHead)) rfl (fun pre i post e => ⟨_, _, tg2, ?_⟩) ⟨_, _, tg2, ?_⟩)
        · obtain ⟨e1, hlt, _⟩ := range_at e
          have hi : i < q0.heads.length := by omega
          have hne := hk2 i (by omega)
          rw [getD_map (d := noHead) (·.word) hi] at hne
          refine sds_less (i := 4) (ρ1 := [.dat (hallD C rows), .dat (.str r.name), .dat (.str wd), .dat (.str q0.name), .dat (.int (i : Int)), .no]) ?_
          refine sds_less (i := 5) (ρ1 := [.dat (hallD C rows), .dat (.str r.name), .dat (.str wd), .dat (.str q0.name), .dat (.int (i : Int)), .dat (encH (q0.heads.getD i noHead))]) ?_
          exact sds_one (sd_ifF (et_is (et_eqS (ee_ixT (ee_var 5) ee_int) (ee_var 2)) (decide_eq_false (fun z => hne (congrArg some z)))) sds_nil)
        · rw [getD_map (d := noHead) (·.word) hkl] at hk1
          exact sds_ret (sd_ifT (et_is (et_eqS (ee_ixT (ee_var 5) ee_int) (ee_var 2)) (decide_eq_true (Option.some.inj hk1))) (sds_ret (sd_ret (ee_tup (ea_cons (ee_var 3) (ea_cons (ee_var 4) ea_nil))))))
/-! head -/
abbrev mHead : Stmt := methOf sHall 7
abbrev nHead : List Str := ["self", "house", "word", "spot", "row"]
theorem scHead : FnScope nHead ["self", "house", "word"] (defScope mHead) := ⟨rfl, rfl, rfl, by decide +kernel, rfl, by decide +kernel, by decide +kernel⟩
theorem ok_head {f C : Addr} {fd : FuncData} (F : Fun K "head" "Hall.head" mHead f fd) (T : Blt mg) (c : HC K C) (cF : MetD P w K mg base 2 C "found" (RFound C)) : FnOk P w K mg base CX0 3 f fd ["self", "house", "word"] (spD K (RHead C)) := by
  refine fn_data F scHead (fun ds d h => ?_) (fun cdv A outer s H E hr ds d h => ?_)
  · obtain ⟨_, _, _, _, rfl, _⟩ := h
    rfl
  · obtain ⟨rows, el, h, wd, rfl, R, hh, rfl⟩ := h
    obtain ⟨r, hr2, rfl⟩ := R.mem hh
    refine sds_cons (ρ1 := [.dat (hallD C rows), .dat (.str r.name), .dat (.str wd), .dat (encFd (foundH rows el r.name wd)), .no]) (sd_set (i := 3) scHead.nd (ee_meth cF hr (by decide) (ee_var 0) (by rfl) (ea_cons (ee_var 1) (ea_cons (ee_var 2) ea_nil)) ⟨rows, el, r.name, wd, rfl, R, hh, rfl⟩)) ?_
    unfold headH
    cases hfd : foundH rows el r.name wd with
    | none => exact sds_ret (sd_ifT (et_is (et_isN (ee_var 3)) rfl) (sds_ret (sd_ret ee_non)))
    | some p =>
      obtain ⟨o0, k⟩ := p
      obtain ⟨pre0, post0, e0, hno, hk⟩ := found_split hfd
      have e0 : r.name :: el r.name = pre0 ++ o0 :: post0 := e0
      obtain ⟨q0, hq0, rfl⟩ := up_mem R hr2 (o := o0) (by rw [e0]; simp)
      have hk : ixOf ((rowOf rows q0.name).heads.map (·.word)) wd = some k := hk
      have hrow := rowOf_of R.nd hq0
      rw [hrow] at hk
      obtain ⟨hk1, hk2⟩ := ixOf_some hk
      have hkl : k < q0.heads.length := by
        have := (List.getElem?_eq_some_iff.mp hk1).1
        rwa [List.length_map] at this
      refine sds_cons (sd_ifF (et_is (et_isN (ee_var 3)) rfl) sds_nil) ?_
      show SDs _ _ _ (.rt (encHd (some ((rowOf rows q0.name).heads.getD k noHead))))
      rw [hrow]
      refine sds_cons (ρ1 := [.dat (hallD C rows), .dat (.str r.name), .dat (.str wd), .dat (encFd (some (q0.name, k))), .dat (encH (q0.heads.getD k noHead))])
        (sd_set (i := 4) scHead.nd (ee_ixL (ee_ixD hr (ee_fld (ee_var 0) c.cls c.heads look_h) (ee_ixT (ee_var 3) ee_int) (look_row (fun r => D.list (r.heads.map encH)) R.nd hq0)) (ee_ixT (ee_var 3) ee_int) (at_enc encH hkl))) ?_
      exact sds_ret (sd_ret (ee_tup (ea_cons (ee_ixT (ee_var 4) ee_int) (ea_cons (ee_ixT (ee_var 4) ee_int) ea_nil))))
end
end EH

set_option maxRecDepth 100000
set_option maxHeartbeats 4000000
/-! The law's own defs, walked: program, firsts, what follows. -/
namespace EH
open PySem PySem.Spec PyProof.Rows L2 DL
section
variable {X : Cx} {ρ : List DL.Slot} {K : PySem.W.Frag}
theorem pg3 {i j m : Nat} {x y z : Str} {p1 p2 p3 pos : Pos} {k : Nat} {N : List Str} (nd : N.Nodup) (hi : X.N[i]? = some x := by rfl) (hj : X.N[j]? = some y := by rfl) (hm : X.N[m]? = some z := by rfl) (hx : Loc X.env.scope x := by first | exact Or.inl rfl | exact Or.inr rfl) (hy : Loc X.env.scope y := by first | exact Or.inl rfl | exact Or.inr rfl) (hz : Loc X.env.scope z := by first | exact Or.inl rfl | exact Or.inr rfl)
    (fx : X.fn x = true ∨ X.env.scope.names.lookup x = some .local := by first | exact .inl rfl | exact .inr rfl) (fy : X.fn y = true ∨ X.env.scope.names.lookup y = some .local := by first | exact .inl rfl | exact .inr rfl) (fz : X.fn z = true ∨ X.env.scope.names.lookup z = some .local := by first | exact .inl rfl | exact .inr rfl) (hX : X.N = N := by rfl) (hc : X.calm = true := by rfl) :
    PG X (.Tuple [.Name x p1, .Name y p2, .Name z p3] k pos) (gTup X.K 3 (gCons (gName i) (gCons (gName j) (gCons (gName m) gNil)))) :=
  pg_tup hc (pgs_cons (pg_name (hX ▸ nd) hi hx fx) (pgs_cons (pg_name (hX ▸ nd) hj hy fy) (pgs_cons (pg_name (hX ▸ nd) hm hz fz) pgs_nil)))
theorem tg3 {i j m : Nat} {d e f : D} : TgD K (gTup K 3 (gCons (gName i) (gCons (gName j) (gCons (gName m) gNil)))) ρ (.tup [d, e, f]) (((ρ.set i (.dat d)).set j (.dat e)).set m (.dat f)) [i, j, m] := tg_tup (tgs_cons (tgs_cons (tgs_cons tgs_nil))) rfl
theorem pg4 {i j m n : Nat} {x y z u : Str} {p1 p2 p3 p4 pos : Pos} {k : Nat} {N : List Str} (nd : N.Nodup) (hi : X.N[i]? = some x := by rfl) (hj : X.N[j]? = some y := by rfl) (hm : X.N[m]? = some z := by rfl) (hn : X.N[n]? = some u := by rfl) (hx : Loc X.env.scope x := by first | exact Or.inl rfl | exact Or.inr rfl) (hy : Loc X.env.scope y := by first | exact Or.inl rfl | exact Or.inr rfl) (hz : Loc X.env.scope z := by first | exact Or.inl rfl | exact Or.inr rfl)
    (hu : Loc X.env.scope u := by first | exact Or.inl rfl | exact Or.inr rfl)
    (fx : X.fn x = true ∨ X.env.scope.names.lookup x = some .local := by first | exact .inl rfl | exact .inr rfl) (fy : X.fn y = true ∨ X.env.scope.names.lookup y = some .local := by first | exact .inl rfl | exact .inr rfl) (fz : X.fn z = true ∨ X.env.scope.names.lookup z = some .local := by first | exact .inl rfl | exact .inr rfl) (fu : X.fn u = true ∨ X.env.scope.names.lookup u = some .local := by first | exact .inl rfl | exact .inr rfl) (hX : X.N = N := by rfl) (hc : X.calm = true := by rfl) :
    PG X (.Tuple [.Name x p1, .Name y p2, .Name z p3, .Name u p4] k pos) (gTup X.K 4 (gCons (gName i) (gCons (gName j) (gCons (gName m) (gCons (gName n) gNil))))) :=
  pg_tup hc (pgs_cons (pg_name (hX ▸ nd) hi hx fx) (pgs_cons (pg_name (hX ▸ nd) hj hy fy) (pgs_cons (pg_name (hX ▸ nd) hm hz fz) (pgs_cons (pg_name (hX ▸ nd) hn hu fu) pgs_nil))))
theorem tg4 {i j m n : Nat} {d e f g : D} : TgD K (gTup K 4 (gCons (gName i) (gCons (gName j) (gCons (gName m) (gCons (gName n) gNil))))) ρ (.tup [d, e, f, g]) ((((ρ.set i (.dat d)).set j (.dat e)).set m (.dat f)).set n (.dat g)) [i, j, m, n] := tg_tup (tgs_cons (tgs_cons (tgs_cons (tgs_cons tgs_nil)))) rfl
end
/-- sizes of rows -/
structure Sz (rows : List HRow) : Prop where
  len : rows.length ≤ 12
  fl : ∀ r ∈ rows, r.fields.length ≤ 5
  hl : ∀ r ∈ rows, r.heads.length ≤ 8
def plain0 : D := .tup [.str "number", .int 0]
def encT (h : HHead) : D := .tup [.str h.word, .tup (h.params.map encP), .str h.kind, plain0]
def encB (r : HRow) : D := .tup [.str r.name, encE r.elder, .tup (r.fields.map encP), .tup (r.heads.map encT)]
def encProg (rows : List HRow) : D := .tup [.tup (rows.map encB), .tup [.tup [], .str "number", plain0]]
def RProg (ds : List D) (d : D) : Prop := ∃ rows, ds = [.list (rows.map encR)] ∧ Sz rows ∧ d = encProg rows
def firsts2 (rows : List HRow) : List Str := rows.flatMap fun r => r.fields.map (·.1)
def firsts3 (rows : List HRow) : List Str := rows.flatMap fun r => r.heads.map (·.word)
def RFirsts2 (ds : List D) (d : D) : Prop := ∃ rows, ds = [.list (rows.map encR), .int 2] ∧ Sz rows ∧ d = .list ((firsts2 rows).map D.str)
def RFirsts3 (ds : List D) (d : D) : Prop := ∃ rows, ds = [.list (rows.map encR), .int 3] ∧ Sz rows ∧ d = .list ((firsts3 rows).map D.str)
theorem flat_len {α β : Type} {f : α → List β} {b : Nat} : ∀ {l : List α}, (∀ x ∈ l, (f x).length ≤ b) → (l.flatMap f).length ≤ b * l.length
  | [], _ => Nat.zero_le _
  | x :: l, h => by
    rw [List.flatMap_cons, List.length_append, List.length_cons, Nat.mul_succ]
    have h1 := flat_len (l := l) fun y hy => h y (List.mem_cons_of_mem _ hy)
    have h2 := h x List.mem_cons_self
    omega
section
variable {P : Program} {w : World} {K : PySem.W.Frag} {mg : Str → Option Value} {base : Heap}
abbrev sProg : Stmt := topS 35
abbrev nProg : List Str := ["_law_rows_here", "_law_houses", "_law_name_here", "_law_elder", "_law_fields_here", "_law_heads_here", "_law_told", "_law_word", "_law_params_here", "_law_kind_here"]
theorem scProg : FnScope nProg ["_law_rows_here"] (defScope sProg) := ⟨rfl, rfl, rfl, by decide +kernel, rfl, by decide +kernel, by decide +kernel⟩
theorem ok_prog {f : Addr} {fd : FuncData} (F : Fun K "_law_program" "_law_program" sProg f fd) (T : Blt mg) : FnOk P w K mg base CX0 1 f fd ["_law_rows_here"] (spD K RProg) := by
  refine fn_data F scProg (fun ds d h => ?_) (fun cdv A outer s H E hr ds d h => ?_)
  · obtain ⟨_, rfl, _⟩ := h
    rfl
  · obtain ⟨rows, rfl, Z, rfl⟩ := h
    refine sds_cons (sd_setN (i := 1) scProg.nd (en_lst ea_nil)) ?_
    refine sds_cons (ρ1 := [.dat (.list (rows.map encR)), .own (rows.map encB), .no, .no, .no, .no, .no, .no, .no, .no])
      (sd_for (as := rows) (P := fun pre => [.dat (.list (rows.map encR)), .own (pre.map encB), .no, .no, .no, .no, .no, .no, .no, .no]) encR (pg4 (i := 2) (j := 3) (m := 4) (n := 5) scProg.nd) (ie_list (ee_var 0)) rfl (fun pre r post e => ⟨_, _, tg4, ?_⟩)) ?_
    · have hr1 : r ∈ rows := by rw [e]; simp
      have hh := Z.hl r hr1
      rw [List.map_append]
      have hxl : (pre.map encB).length ≤ 12 := by
        rw [List.length_map]
        have h1 := congrArg List.length e
        have := Z.len
        simp at h1
        omega
      generalize pre.map encB = xs at hxl
      refine sds_less (i := 2) (ρ1 := [.dat (.list (rows.map encR)), .own (xs ++ _), .dat (.str r.name), .no, .no, .no, .no, .no, .no, .no]) ?_
      refine sds_less (i := 3) (ρ1 := [.dat (.list (rows.map encR)), .own (xs ++ _), .dat (.str r.name), .dat (encE r.elder), .no, .no, .no, .no, .no, .no]) ?_
      refine sds_less (i := 4) (ρ1 := [.dat (.list (rows.map encR)), .own (xs ++ _), .dat (.str r.name), .dat (encE r.elder), .dat (.tup (r.fields.map encP)), .no, .no, .no, .no, .no]) ?_
      refine sds_less (i := 5) (ρ1 := [.dat (.list (rows.map encR)), .own (xs ++ _), .dat (.str r.name), .dat (encE r.elder), .dat (.tup (r.fields.map encP)), .dat (.list (r.heads.map encH)), .no, .no, .no, .no]) ?_
      refine sds_less (i := 6) (ρ1 := [.dat (.list (rows.map encR)), .own (xs ++ _), .dat (.str r.name), .dat (encE r.elder), .dat (.tup (r.fields.map encP)), .dat (.list (r.heads.map encH)), .dat (.list (r.heads.map encT)), .no, .no, .no]) ?_
      refine sds_cons (ρ1 := [.dat (.list (rows.map encR)), .own xs, .dat (.str r.name), .dat (encE r.elder), .dat (.tup (r.fields.map encP)), .dat (.list (r.heads.map encH)), .dat (.list (r.heads.map encT)), .no, .no, .no])
        (sd_to (sd_frozen (sd_setLc (i := 6) (as := r.heads) (f := fun _ => true) (e := encT) (own := [("_law_word", 7), ("_law_params_here", 8), ("_law_kind_here", 9)]) encH scProg.nd (blkOk_by (N := nProg) (sc := defScope sProg) (by decide +kernel)) (ie_list (ee_var 5)) (by omega)
          (fun s H C cl fp => pg3 (i := 7) (j := 8) (m := 9) scProg.nd) (fun h hh => ⟨_, _, tg3, by decide, ebt_nil, fun _ s H0 C cl fp => ee_tup (ea_cons (ee_var 7) (ea_cons (ee_var 8) (ea_cons (ee_var 9) (ea_cons (ee_tup (ea_cons ee_str (ea_cons ee_int ea_nil))) ea_nil))))⟩)) (i := 6)) ?_) ?_
      · rw [filterT]
        rfl
      · exact sds_one (sd_app (i := 1) (ee_tup (ea_cons (ee_var 2) (ea_cons (ee_var 3) (ea_cons (ee_var 4) (ea_cons (ee_tupleOf T.tuple (ee_var 6)) ea_nil))))) (by omega))
    · exact sds_freeze 1 (by rfl) (sds_ret (sd_ret (ee_tup (ea_cons (ee_tupleOf T.tuple (ee_var 1)) (ea_cons (ee_tup (ea_cons (ee_tup ea_nil) (ea_cons ee_str (ea_cons (ee_tup (ea_cons ee_str (ea_cons ee_int ea_nil))) ea_nil)))) ea_nil)))))
/-! ### firsts -/
abbrev sFirsts : Stmt := topS 36
abbrev nFirsts : List Str := ["_law_rows_here", "_law_place", "_law_found", "_law_row", "_law_one"]
theorem scFirsts : FnScope nFirsts ["_law_rows_here", "_law_place"] (defScope sFirsts) := ⟨rfl, rfl, rfl, by decide +kernel, rfl, by decide +kernel, by decide +kernel⟩
theorem ok_firsts2 {f : Addr} {fd : FuncData} (F : Fun K "_law_firsts" "_law_firsts" sFirsts f fd) (T : Blt mg) : FnOk P w K mg base CX0 1 f fd ["_law_rows_here", "_law_place"] (spD K RFirsts2) := by
  refine fn_data F scFirsts (fun ds d h => ?_) (fun cdv A outer s H E hr ds d h => ?_)
  · obtain ⟨_, rfl, _⟩ := h
    rfl
  · obtain ⟨rows, rfl, Z, rfl⟩ := h
    refine sds_cons (sd_set (i := 2) scFirsts.nd (EN.ee (en_lst ea_nil))) ?_
    refine sds_cons (ρ1 := [.dat (.list (rows.map encR)), .dat (.int 2), .dat (.list ((firsts2 rows).map D.str)), .no, .no])
      (sd_for1 (as := rows) (P := fun pre => [.dat (.list (rows.map encR)), .dat (.int 2), .dat (.list ((firsts2 pre).map D.str)), .no, .no]) 3 encR scFirsts.nd (ie_list (ee_var 0)) rfl (fun pre r post e => ?_)) (sds_ret (sd_ret (ee_var 2)))
    have hr1 : r ∈ rows := by rw [e]; simp
    have hf := Z.fl r hr1
    have hp : (firsts2 pre).length ≤ 5 * pre.length := flat_len fun x hx => by rw [List.length_map]; exact Z.fl x (by rw [e]; simp [hx])
    have hpl : pre.length ≤ 12 := by
      have h1 := congrArg List.length e
      have := Z.len
      simp at h1
      omega
    refine sds_less (i := 3) (ρ1 := [.dat (.list (rows.map encR)), .dat (.int 2), .dat (.list ((firsts2 (pre ++ [r])).map D.str)), .dat (encR r), .no]) (sds_one ?_)
    refine sd_to (sd_set (i := 2) scFirsts.nd (EN.ee (en_cat (ee_var 2) (EN.ee (en_lc1 (as := r.fields) (e := fun p => .str p.1) encP 4 scFirsts.nd (blkOk_by (N := nFirsts) (sc := defScope sFirsts) (by decide +kernel)) (ie_tup (ee_ixT (ee_var 3) (ee_var 1))) (by omega) (fun p hp s H0 C cl fp => ee_ixT (ee_var 4) ee_int))) (by rw [List.length_map, List.length_map]; omega)))) ?_
    have : firsts2 (pre ++ [r]) = firsts2 pre ++ r.fields.map (·.1) := by unfold firsts2; rw [List.flatMap_append]; simp
    rw [this, List.map_append, List.map_map]
    rfl
theorem ok_firsts3 {f : Addr} {fd : FuncData} (F : Fun K "_law_firsts" "_law_firsts" sFirsts f fd) (T : Blt mg) : FnOk P w K mg base CX0 1 f fd ["_law_rows_here", "_law_place"] (spD K RFirsts3) := by
  refine fn_data F scFirsts (fun ds d h => ?_) (fun cdv A outer s H E hr ds d h => ?_)
  · obtain ⟨_, rfl, _⟩ := h
    rfl
  · obtain ⟨rows, rfl, Z, rfl⟩ := h
    refine sds_cons (sd_set (i := 2) scFirsts.nd (EN.ee (en_lst ea_nil))) ?_
    refine sds_cons (ρ1 := [.dat (.list (rows.map encR)), .dat (.int 3), .dat (.list ((firsts3 rows).map D.str)), .no, .no])
      (sd_for1 (as := rows) (P := fun pre => [.dat (.list (rows.map encR)), .dat (.int 3), .dat (.list ((firsts3 pre).map D.str)), .no, .no]) 3 encR scFirsts.nd (ie_list (ee_var 0)) rfl (fun pre r post e => ?_)) (sds_ret (sd_ret (ee_var 2)))
    have hr1 : r ∈ rows := by rw [e]; simp
    have hf := Z.hl r hr1
    have hp : (firsts3 pre).length ≤ 8 * pre.length := flat_len fun x hx => by rw [List.length_map]; exact Z.hl x (by rw [e]; simp [hx])
    have hpl : pre.length ≤ 12 := by
      have h1 := congrArg List.length e
      have := Z.len
      simp at h1
      omega
    refine sds_less (i := 3) (ρ1 := [.dat (.list (rows.map encR)), .dat (.int 3), .dat (.list ((firsts3 (pre ++ [r])).map D.str)), .dat (encR r), .no]) (sds_one ?_)
    refine sd_to (sd_set (i := 2) scFirsts.nd (EN.ee (en_cat (ee_var 2) (EN.ee (en_lc1 (as := r.heads) (e := fun p => .str p.word) encH 4 scFirsts.nd (blkOk_by (N := nFirsts) (sc := defScope sFirsts) (by decide +kernel)) (ie_list (ee_ixT (ee_var 3) (ee_var 1))) (by omega) (fun p hp s H0 C cl fp => ee_ixT (ee_var 4) ee_int))) (by rw [List.length_map, List.length_map]; omega)))) ?_
    have : firsts3 (pre ++ [r]) = firsts3 pre ++ r.heads.map (·.word) := by unfold firsts3; rw [List.flatMap_append]; simp
    rw [this, List.map_append, List.map_map]
    rfl
end
end EH

set_option maxRecDepth 100000
set_option maxHeartbeats 4000000
/-! The law's own defs, walked: fields follow, words follow, alone. -/
namespace EH
open PySem PySem.Spec PyProof.Rows L2 DL
/-! ### plain laws -/
theorem at_head {α : Type} (x : α) (xs : List α) : atI (x :: xs) 0 = some x := atI_nat (j := 0) rfl
theorem ixOf_app (xs ys : List Str) (f : Str) : ixOf (xs ++ ys) f = (ixOf xs f).or ((ixOf ys f).map fun i => i + xs.length) := List.findIdx?_append
theorem ixOf_mem {xs : List Str} {f : Str} (h : f ∈ xs) : ∃ k, ixOf xs f = some k := by
  cases e : ixOf xs f with
  | some k => exact ⟨k, rfl⟩
  | none => exact absurd rfl (ixOf_none e f h)
theorem ixOf_nmem {xs : List Str} {f : Str} (h : f ∉ xs) : ixOf xs f = none := by
  cases e : ixOf xs f with
  | none => rfl
  | some k => exact absurd (List.mem_of_getElem? (ixOf_some e).1) h
def aheadH (rows : List HRow) (el : Str → List Str) (r : HRow) : List (Str × Str) := match r.elder with
  | none => []
  | some e => fieldsH rows el e
section
variable {rows : List HRow} {el : Str → List Str}
theorem fields_eq (R : Hs rows el) {r : HRow} (hr : r ∈ rows) : fieldsH rows el r.name = aheadH rows el r ++ r.fields := by
  unfold fieldsH aheadH
  rw [List.reverse_cons, List.flatMap_append, R.elq r hr]
  have : ([r.name].flatMap fun o => (rowOf rows o).fields) = r.fields := by rw [List.flatMap_cons, List.flatMap_nil, List.append_nil, rowOf_of R.nd hr]
  rw [this]
  cases r.elder <;> rfl
theorem ahead_len (R : Hs rows el) {r : HRow} (hr : r ∈ rows) : (aheadH rows el r).length ≤ 65 := by
  unfold aheadH
  cases he : r.elder with
  | none => exact Nat.zero_le _
  | some e =>
    obtain ⟨q, hq, rfl⟩ := R.up r hr e he
    exact fieldsH_len R hq
theorem fieldsH_ok (R : Hs rows el) {r : HRow} (hr : r ∈ rows) : ∀ p ∈ fieldsH rows el r.name, SOk p.1 ∧ SOk p.2 := fun p hp => by
  obtain ⟨o, ho, hp⟩ := List.mem_flatMap.mp hp
  obtain ⟨q, hq, rfl⟩ := up_mem R hr (List.mem_reverse.mp ho)
  rw [rowOf_of R.nd hq] at hp
  exact R.okf q hq p hp
theorem pl_P {p : Str × Str} (h : SOk p.1 ∧ SOk p.2) : Pl 1 (encP p) := .tup fun d hd => by
  simp at hd
  rcases hd with rfl | rfl
  · exact .str _ h.1
  · exact .str _ h.2
theorem pl_strs {n : Nat} {l : List Str} (h : ∀ s ∈ l, SOk s) : Pl (n + 1) (.list (l.map D.str)) := .list fun d hd => by
  obtain ⟨s, hs, rfl⟩ := List.mem_map.mp hd
  exact .str _ (h s hs)
theorem pl_Ps {l : List (Str × Str)} (h : ∀ p ∈ l, SOk p.1 ∧ SOk p.2) : Pl 2 (.list (l.map encP)) := .list fun d hd => by
  obtain ⟨p, hp, rfl⟩ := List.mem_map.mp hd
  exact pl_P (h p hp)
theorem pl_O (n : Nat) (o : Option Nat) : Pl n (encO o) := by
  cases o with
  | none => exact .non n
  | some k => exact .int n _
theorem foundH_row (R : Hs rows el) {r : HRow} (hr : r ∈ rows) (wd : Str) : foundH rows el r.name wd = match ixOf (r.heads.map (·.word)) wd with
    | some k => some (r.name, k)
    | none => match r.elder with
      | none => none
      | some e => foundH rows el e wd := by
  unfold foundH
  rw [foundL, rowOf_of R.nd hr, R.elq r hr]
  cases ixOf (r.heads.map (·.word)) wd with
  | some k => rfl
  | none => cases r.elder <;> rfl
theorem found_ok (R : Hs rows el) {r : HRow} (hr : r ∈ rows) {wd : Str} {p : Str × Nat} (h : foundH rows el r.name wd = some p) : ∃ q ∈ rows, q.name = p.1 ∧ p.2 < q.heads.length := by
  obtain ⟨pre, post, e, _, hk⟩ := found_split h
  obtain ⟨q, hq, e1⟩ := up_mem R hr (o := p.1) (by rw [e]; simp)
  rw [← e1, rowOf_of R.nd hq] at hk
  have := (List.getElem?_eq_some_iff.mp (ixOf_some hk).1).1
  rw [List.length_map] at this
  exact ⟨q, hq, e1, this⟩
theorem pl_Fd (R : Hs rows el) {r : HRow} (hr : r ∈ rows) (wd : Str) : Pl 1 (encFd (foundH rows el r.name wd)) := by
  cases h : foundH rows el r.name wd with
  | none => exact .non _
  | some p =>
    obtain ⟨q, hq, e, _⟩ := found_ok R hr h
    refine .tup fun d hd => ?_
    simp at hd
    rcases hd with rfl | rfl
    · rw [← e]; exact .str _ (R.okn q hq)
    · exact .int _ _
theorem pl_Hd (R : Hs rows el) {r : HRow} (hr : r ∈ rows) (wd : Str) : Pl 3 (encHd (headH rows el r.name wd)) := by
  unfold headH
  cases h : foundH rows el r.name wd with
  | none => exact .non _
  | some p =>
    obtain ⟨q, hq, e, hl⟩ := found_ok R hr h
    show Pl 3 (encHd (some ((rowOf rows p.1).heads.getD p.2 noHead)))
    rw [← e, rowOf_of R.nd hq]
    obtain ⟨h1, h2, h3⟩ := R.okh q hq _ (getD_mem (d := noHead) hl)
    refine .tup fun d hd => ?_
    simp only [List.mem_cons, List.not_mem_nil, or_false] at hd
    rcases hd with rfl | rfl
    · refine .tup fun d hd => ?_
      obtain ⟨p, hp, rfl⟩ := List.mem_map.mp hd
      exact pl_P (h3 p hp)
    · exact .str _ h2
theorem mine_none {hs : List HHead} {wd : Str} (h : ixOf (hs.map (·.word)) wd = none) : (List.range hs.length).filter (fun i => decide ((hs.getD i noHead).word = wd)) = [] := by
  refine List.filter_eq_nil_iff.mpr fun i hi => ?_
  have hi := List.mem_range.mp hi
  have := ixOf_none h _ (List.mem_of_getElem? (getD_map (d := noHead) (·.word) hi))
  simpa using this
theorem mine_some {hs : List HHead} {wd : Str} {k : Nat} (h : ixOf (hs.map (·.word)) wd = some k) : k < hs.length ∧ ∃ rest, (List.range hs.length).filter (fun i => decide ((hs.getD i noHead).word = wd)) = k :: rest := by
  obtain ⟨h1, h2⟩ := ixOf_some h
  have hk : k < hs.length := by
    have := (List.getElem?_eq_some_iff.mp h1).1
    rwa [List.length_map] at this
  obtain ⟨post, e⟩ := range_split hk
  rw [getD_map (d := noHead) (·.word) hk] at h1
  refine ⟨hk, post.filter fun i => decide ((hs.getD i noHead).word = wd), ?_⟩
  rw [e, List.filter_append, List.filter_cons, if_pos (by simpa using Option.some.inj h1)]
  have : (List.range k).filter (fun i => decide ((hs.getD i noHead).word = wd)) = [] := List.filter_eq_nil_iff.mpr fun i hi => by
    have hi := List.mem_range.mp hi
    have := h2 i hi
    rw [getD_map (d := noHead) (·.word) (by omega)] at this
    simpa using this
  rw [this]
  rfl
end
def RFF (C : Addr) (ds : List D) (d : D) : Prop := ∃ (rows : List HRow) (el : Str → List Str) (r : HRow) (fl : List Str), ds = [hallD C rows, encR r, .list (fl.map D.str)] ∧ Hs rows el ∧ r ∈ rows ∧ fl.length ≤ 40000 ∧ d = .bool true
def RWF (C : Addr) (ds : List D) (d : D) : Prop := ∃ (rows : List HRow) (el : Str → List Str) (r : HRow) (wl : List Str), ds = [hallD C rows, encR r, .list (wl.map D.str)] ∧ Hs rows el ∧ r ∈ rows ∧ wl.length ≤ 40000 ∧ d = .bool true
def bareR (r : HRow) : HRow := { r with elder := none }
def RAlone (C : Addr) (ds : List D) (d : D) : Prop := ∃ (rows : List HRow) (r : HRow) (wl : List Str), ds = [hallD C (rows.map bareR), .list (rows.map encR), encR r, .list (wl.map D.str)] ∧ Hs (rows.map bareR) (fun _ => []) ∧ r ∈ rows ∧ wl.length ≤ 40000 ∧ d = .bool true
section
variable {P : Program} {w : World} {K : PySem.W.Frag} {mg : Str → Option Value} {base : Heap}
/-! ### fields follow -/
abbrev sFF : Stmt := topS 37
abbrev nFF : List Str := ["_law_hall", "_law_row", "_law_fields_here", "_law_name_here", "_law_elder", "_law_own", "_law_heads_here", "_law_ahead", "_law_field", "_law_one"]
theorem scFF : FnScope nFF ["_law_hall", "_law_row", "_law_fields_here"] (defScope sFF) := ⟨rfl, rfl, rfl, by decide +kernel, rfl, by decide +kernel, by decide +kernel⟩
theorem ok_ff {f C : Addr} {fd : FuncData} (F : Fun K "_law_fields_follow" "_law_fields_follow" sFF f fd) (T : Blt mg) (cF : MetD P w K mg base 2 C "fields" (RFieldsH C)) (cP : MetD P w K mg base 3 C "place" (RPlace C)) : FnOk P w K mg base CX0 4 f fd ["_law_hall", "_law_row", "_law_fields_here"] (spD K (RFF C)) := by
  refine fn_data F scFF (fun ds d h => ?_) (fun cdv A outer s H E hr ds d h => ?_)
  · obtain ⟨_, _, _, _, rfl, _⟩ := h
    rfl
  · obtain ⟨rows, el, r, fl, rfl, R, hr2, hfl, rfl⟩ := h
    have hh : r.name ∈ nameL rows := List.mem_map.mpr ⟨r, hr2, rfl⟩
    have hal := ahead_len R hr2
    have hfl5 := R.fl r hr2
    refine sds_cons (sd_asg (ee_var 1) (pg4 (i := 3) (j := 4) (m := 5) (n := 6) scFF.nd) tg4) ?_
    refine sds_cons (ρ1 := [.dat (hallD C rows), .dat (encR r), .dat (.list (fl.map D.str)), .dat (.str r.name), .dat (encE r.elder), .dat (.tup (r.fields.map encP)), .dat (.list (r.heads.map encH)), .dat (.list ((aheadH rows el r).map encP)), .no, .no]) (sd_set (i := 7) scFF.nd ?_) ?_
    · unfold aheadH
      cases he : r.elder with
      | none => 
        refine ee_if (et_isN (ee_var 4)) (fun _ => EN.ee (en_lst ea_nil)) (fun z => ?_)
        exact nomatch (show true = false from z)
      | some e =>
        obtain ⟨q, hq, rfl⟩ := R.up r hr2 e he
        refine ee_if (et_isN (ee_var 4)) (fun z => ?_) (fun _ => ee_meth cF hr (by decide) (ee_var 0) (by rfl) (ea_cons (ee_var 4) ea_nil) ⟨rows, el, q.name, rfl, R, List.mem_map.mpr ⟨q, hq, rfl⟩, rfl⟩)
        exact nomatch (show false = true from z)
    have hfe := fields_eq R hr2
    refine sds_cons (sd_ifF (et_ne hr (ee_meth cF hr (by decide) (ee_var 0) (by rfl) (ea_cons (ee_var 3) ea_nil) ⟨rows, el, r.name, rfl, R, hh, rfl⟩)
      (EN.ee (en_is (en_cat (ee_var 7) (EN.ee (en_listT T.list (ee_var 5))) (by rw [List.length_map, List.length_map]; omega)) (by rw [hfe, List.map_append]))) (pl_Ps (fieldsH_ok R hr2))) sds_nil) ?_
    refine sds_cons (sd_for1 (as := fl) (P := fun _ => [.dat (hallD C rows), .dat (encR r), .dat (.list (fl.map D.str)), .dat (.str r.name), .dat (encE r.elder), .dat (.tup (r.fields.map encP)), .dat (.list (r.heads.map encH)), .dat (.list ((aheadH rows el r).map encP)), .no, .no]) 8 D.str scFF.nd (ie_list (ee_var 2)) rfl (fun pre fw post e => ?_)) (sds_ret (sd_ret ee_bool))
    refine sds_less (i := 8) (ρ1 := [.dat (hallD C rows), .dat (encR r), .dat (.list (fl.map D.str)), .dat (.str r.name), .dat (encE r.elder), .dat (.tup (r.fields.map encP)), .dat (.list (r.heads.map encH)), .dat (.list ((aheadH rows el r).map encP)), .dat (.str fw), .no]) (sds_one ?_)
    have hpl : placeH rows el r.name fw = (ixOf ((aheadH rows el r).map (·.1)) fw).or ((ixOf (r.fields.map (·.1)) fw).map fun i => i + (aheadH rows el r).length) := by
      unfold placeH
      rw [hfe, List.map_append, ixOf_app, List.length_map]
    by_cases h1 : fw ∈ (aheadH rows el r).map (·.1)
    · refine sd_ifT (et_is (et_in (ss := (aheadH rows el r).map (·.1)) (ee_var 8) (EN.ee (en_is (en_lc1 (as := aheadH rows el r) (e := fun p => .str p.1) encP 9 scFF.nd (blkOk_by (N := nFF) (sc := defScope sFF) (by decide +kernel)) (ie_list (ee_var 7)) (by omega) (fun p hp s H0 C cl fp => ee_ixT (ee_var 9) ee_int)) (by rw [List.map_map]; rfl)))) (decide_eq_true h1)) (sds_one ?_)
      cases he : r.elder with
      | none =>
        unfold aheadH at h1
        rw [he] at h1
        cases h1
      | some e =>
        obtain ⟨q, hq, rfl⟩ := R.up r hr2 e he
        obtain ⟨k, hk⟩ := ixOf_mem h1
        have e1 : placeH rows el r.name fw = placeH rows el q.name fw := by
          rw [hpl, hk]
          have : aheadH rows el r = fieldsH rows el q.name := by unfold aheadH; rw [he]
          unfold placeH
          rw [← this, hk]
          rfl
        refine sd_ifF (et_ne hr (ee_is (ee_meth cP hr (by decide) (ee_var 0) (by rfl) (ea_cons (ee_var 3) (ea_cons (ee_var 8) ea_nil)) ⟨rows, el, r.name, fw, rfl, R, hh, rfl⟩) (congrArg encO e1)) (ee_meth cP hr (by decide) (ee_var 0) (by rfl) (ea_cons (ee_var 4) (ea_cons (ee_var 8) ea_nil)) ⟨rows, el, q.name, fw, rfl, R, List.mem_map.mpr ⟨q, hq, rfl⟩, rfl⟩) (pl_O 0 _)) sds_nil
    · refine sd_ifF (et_is (et_in (ss := (aheadH rows el r).map (·.1)) (ee_var 8) (EN.ee (en_is (en_lc1 (as := aheadH rows el r) (e := fun p => .str p.1) encP 9 scFF.nd (blkOk_by (N := nFF) (sc := defScope sFF) (by decide +kernel)) (ie_list (ee_var 7)) (by omega) (fun p hp s H0 C cl fp => ee_ixT (ee_var 9) ee_int)) (by rw [List.map_map]; rfl)))) (decide_eq_false h1)) (sds_one ?_)
      rw [ixOf_nmem h1, Option.none_or] at hpl
      by_cases h2 : fw ∈ r.fields.map (·.1)
      · refine sd_ifT (et_is (et_in (ss := r.fields.map (·.1)) (ee_var 8) (EN.ee (en_is (en_lc1 (as := r.fields) (e := fun p => .str p.1) encP 9 scFF.nd (blkOk_by (N := nFF) (sc := defScope sFF) (by decide +kernel)) (ie_tup (ee_var 5)) (by omega) (fun p hp s H0 C cl fp => ee_ixT (ee_var 9) ee_int)) (by rw [List.map_map]; rfl)))) (decide_eq_true h2)) (sds_one ?_)
        obtain ⟨k, hk⟩ := ixOf_mem h2
        obtain ⟨hk1, hk2⟩ := ixOf_some hk
        rw [hk] at hpl
        refine sd_ifF (et_ne (d := .int (((aheadH rows el r).map encP).length + (k : Int))) hr (ee_is (ee_meth cP hr (by decide) (ee_var 0) (by rfl) (ea_cons (ee_var 3) (ea_cons (ee_var 8) ea_nil)) ⟨rows, el, r.name, fw, rfl, R, hh, rfl⟩) ?_) (ee_add (ee_len T.len (ee_var 7)) (ee_index (ss := r.fields.map (·.1)) (n := k) (EN.ee (en_is (en_lc1 (as := r.fields) (e := fun p => .str p.1) encP 9 scFF.nd (blkOk_by (N := nFF) (sc := defScope sFF) (by decide +kernel)) (ie_tup (ee_var 5)) (by omega) (fun p hp s H0 C cl fp => ee_ixT (ee_var 9) ee_int)) (by rw [List.map_map]; rfl))) (ee_var 8) hk1 hk2)) (.int 0 _)) sds_nil
        rw [hpl, List.length_map]
        show D.int ((k + (aheadH rows el r).length : Nat) : Int) = _
        congr 1
        omega
      · refine sd_ifF (et_is (et_in (ss := r.fields.map (·.1)) (ee_var 8) (EN.ee (en_is (en_lc1 (as := r.fields) (e := fun p => .str p.1) encP 9 scFF.nd (blkOk_by (N := nFF) (sc := defScope sFF) (by decide +kernel)) (ie_tup (ee_var 5)) (by omega) (fun p hp s H0 C cl fp => ee_ixT (ee_var 9) ee_int)) (by rw [List.map_map]; rfl)))) (decide_eq_false h2)) (sds_one ?_)
        rw [ixOf_nmem h2] at hpl
        exact sd_ifF (et_is (et_notN (ee_meth cP hr (by decide) (ee_var 0) (by rfl) (ea_cons (ee_var 3) (ea_cons (ee_var 8) ea_nil)) ⟨rows, el, r.name, fw, rfl, R, hh, rfl⟩)) (by rw [hpl]; rfl)) sds_nil
/-! ### words follow -/
abbrev sWF : Stmt := topS 38
abbrev nWF : List Str := ["_law_hall", "_law_row", "_law_pool_here", "_law_name_here", "_law_elder", "_law_own", "_law_heads_here", "_law_word", "_law_mine", "_law_due", "_law_number", "_law_head"]
theorem scWF : FnScope nWF ["_law_hall", "_law_row", "_law_pool_here"] (defScope sWF) := ⟨rfl, rfl, rfl, by decide +kernel, rfl, by decide +kernel, by decide +kernel⟩
theorem ok_wf {f C : Addr} {fd : FuncData} (F : Fun K "_law_words_follow" "_law_words_follow" sWF f fd) (T : Blt mg) (cF : MetD P w K mg base 2 C "found" (RFound C)) (cH : MetD P w K mg base 3 C "head" (RHead C)) : FnOk P w K mg base CX0 4 f fd ["_law_hall", "_law_row", "_law_pool_here"] (spD K (RWF C)) := by
  refine fn_data F scWF (fun ds d h => ?_) (fun cdv A outer s H E hr ds d h => ?_)
  · obtain ⟨_, _, _, _, rfl, _⟩ := h
    rfl
  · obtain ⟨rows, el, r, wl, rfl, R, hr2, hfl, rfl⟩ := h
    have hh : r.name ∈ nameL rows := List.mem_map.mpr ⟨r, hr2, rfl⟩
    have hhl := R.hl r hr2
    refine sds_cons (sd_asg (ee_var 1) (pg4 (i := 3) (j := 4) (m := 5) (n := 6) scWF.nd) tg4) ?_
    refine sds_cons (sd_for1 (as := wl) (P := fun _ => [.dat (hallD C rows), .dat (encR r), .dat (.list (wl.map D.str)), .dat (.str r.name), .dat (encE r.elder), .dat (.tup (r.fields.map encP)), .dat (.list (r.heads.map encH)), .no, .no, .no, .no, .no]) 7 D.str scWF.nd (ie_list (ee_var 2)) rfl (fun pre wd post e => ?_)) (sds_ret (sd_ret ee_bool))
    generalize hmi : (List.range r.heads.length).filter (fun i => decide ((r.heads.getD i noHead).word = wd)) = mine
    refine sds_less (i := 7) (ρ1 := [.dat (hallD C rows), .dat (encR r), .dat (.list (wl.map D.str)), .dat (.str r.name), .dat (encE r.elder), .dat (.tup (r.fields.map encP)), .dat (.list (r.heads.map encH)), .dat (.str wd), .no, .no, .no, .no]) ?_
    refine sds_less (i := 8) (ρ1 := [.dat (hallD C rows), .dat (encR r), .dat (.list (wl.map D.str)), .dat (.str r.name), .dat (encE r.elder), .dat (.tup (r.fields.map encP)), .dat (.list (r.heads.map encH)), .dat (.str wd), .dat (.list (mine.map encN)), .no, .no, .no]) ?_
    refine sds_less (i := 9) (ρ1 := [.dat (hallD C rows), .dat (encR r), .dat (.list (wl.map D.str)), .dat (.str r.name), .dat (encE r.elder), .dat (.tup (r.fields.map encP)), .dat (.list (r.heads.map encH)), .dat (.str wd), .dat (.list (mine.map encN)), .dat (.tup [encFd (foundH rows el r.name wd), encHd (headH rows el r.name wd)]), .no, .no]) ?_
    refine sds_cons (ρ1 := [.dat (hallD C rows), .dat (encR r), .dat (.list (wl.map D.str)), .dat (.str r.name), .dat (encE r.elder), .dat (.tup (r.fields.map encP)), .dat (.list (r.heads.map encH)), .dat (.str wd), .dat (.list (mine.map encN)), .no, .no, .no])
      (sd_to (sd_frozen (sd_setLc (i := 8) (as := List.range r.heads.length) (f := fun i => decide ((r.heads.getD i noHead).word = wd)) (e := encN) (own := [("_law_number", 10), ("_law_head", 11)]) (enumD encH r.heads noHead) scWF.nd (blkOk_by (N := nWF) (sc := defScope sWF) (by decide +kernel)) ((ie_enum T.enumerate (ee_var 6)).to (enum_eq encH r.heads noHead)) (by rw [List.length_range]; omega)
        (fun s H C cl fp => pg2 (i := 10) (j := 11) scWF.nd) (fun i hi => ⟨_, _, tg2, by decide, ebt_one (fun s H0 C cl fp => et_eqS (ee_ixT (ee_var 11) ee_int) (ee_var 7)), fun _ s H0 C cl fp => ee_var 10⟩)) (i := 8)) (by rw [hmi]; rfl)) ?_
    refine sds_cons (sd_set (i := 9) scWF.nd (ee_tup (ea_cons ee_non (ea_cons ee_non ea_nil)))) ?_
    have hpm : Pl 1 (.list (mine.map encN)) := .list fun d hd => by
      obtain ⟨s, hs, rfl⟩ := List.mem_map.mp hd
      exact .int _ _
    have hfr := foundH_row R hr2 wd
    refine sds_cons (ρ1 := [.dat (hallD C rows), .dat (encR r), .dat (.list (wl.map D.str)), .dat (.str r.name), .dat (encE r.elder), .dat (.tup (r.fields.map encP)), .dat (.list (r.heads.map encH)), .dat (.str wd), .dat (.list (mine.map encN)), .dat (.tup [encFd (foundH rows el r.name wd), encHd (headH rows el r.name wd)]), .no, .no]) ?_ ?_
    · cases hix : ixOf (r.heads.map (·.word)) wd with
      | some k =>
        obtain ⟨hk, rest, e1⟩ := mine_some hix
        rw [hmi] at e1
        subst e1
        rw [hix] at hfr
        have hhd : headH rows el r.name wd = some (r.heads.getD k noHead) := by
          unfold headH
          rw [hfr]
          show some ((rowOf rows r.name).heads.getD k noHead) = _
          rw [rowOf_of R.nd hr2]
        rw [hfr, hhd]
        refine sd_ifT (et_is (et_neNil hr (ee_var 8) (EN.ee (en_lst ea_nil)) hpm) rfl) (sds_one ?_)
        exact sd_set (i := 9) scWF.nd (ee_tup (ea_cons (ee_tup (ea_cons (ee_var 3) (ea_cons (ee_ixL (ee_var 8) ee_int (at_head _ _)) ea_nil))) (ea_cons (ee_is (ee_slT (ee_ixL (ee_var 6) (ee_ixL (d := encN k) (ee_var 8) ee_int (at_head _ _)) (at_enc encH hk)) (eo_some ee_int) eo_none (fun z => nomatch (show (1 : Nat) = 0 from z.1))) rfl) ea_nil)))
      | none =>
        have e1 := mine_none hix
        rw [hmi] at e1
        subst e1
        rw [hix] at hfr
        refine sd_ifF (et_is (et_neNil hr (ee_var 8) (EN.ee (en_lst ea_nil)) hpm) rfl) (sds_one ?_)
        cases he : r.elder with
        | none =>
          rw [he] at hfr
          have hfr : foundH rows el r.name wd = none := hfr
          have hhd : headH rows el r.name wd = none := by unfold headH; rw [hfr]; rfl
          rw [hfr, hhd]
          exact sd_ifF (et_is (et_notN (ee_var 4)) rfl) sds_nil
        | some e =>
          obtain ⟨q, hq, rfl⟩ := R.up r hr2 e he
          rw [he] at hfr
          have hfr : foundH rows el r.name wd = foundH rows el q.name wd := hfr
          have hhd : headH rows el r.name wd = headH rows el q.name wd := by unfold headH; rw [hfr]
          rw [hfr, hhd]
          have hq2 : q.name ∈ nameL rows := List.mem_map.mpr ⟨q, hq, rfl⟩
          exact sd_ifT (et_is (et_notN (ee_var 4)) rfl) (sds_one (sd_set (i := 9) scWF.nd (ee_tup (ea_cons (ee_meth cF hr (by decide) (ee_var 0) (by rfl) (ea_cons (ee_var 4) (ea_cons (ee_var 7) ea_nil)) ⟨rows, el, q.name, wd, rfl, R, hq2, rfl⟩) (ea_cons (ee_meth cH hr (by decide) (ee_var 0) (by rfl) (ea_cons (ee_var 4) (ea_cons (ee_var 7) ea_nil)) ⟨rows, el, q.name, wd, rfl, R, hq2, rfl⟩) ea_nil)))))
    · refine sds_one (sd_ifF (et_ne (n := 4) hr (ee_tup (ea_cons (ee_meth cF hr (by decide) (ee_var 0) (by rfl) (ea_cons (ee_var 3) (ea_cons (ee_var 7) ea_nil)) ⟨rows, el, r.name, wd, rfl, R, hh, rfl⟩) (ea_cons (ee_meth cH hr (by decide) (ee_var 0) (by rfl) (ea_cons (ee_var 3) (ea_cons (ee_var 7) ea_nil)) ⟨rows, el, r.name, wd, rfl, R, hh, rfl⟩) ea_nil))) (ee_var 9) (.tup fun d hd => ?_)) sds_nil)
      simp only [List.mem_cons, List.not_mem_nil, or_false] at hd
      rcases hd with rfl | rfl
      · exact (pl_Fd R hr2 wd).mono (by decide)
      · exact pl_Hd R hr2 wd
end
end EH

set_option maxRecDepth 100000
set_option maxHeartbeats 4000000
/-! The law's own defs, walked: alone. -/
namespace EH
open PySem PySem.Spec PyProof.Rows L2 DL
section
variable {P : Program} {w : World} {K : PySem.W.Frag} {mg : Str → Option Value} {base : Heap}
abbrev sAlone : Stmt := topS 39
abbrev nAlone : List Str := ["_law_hall", "_law_rows_here", "_law_row", "_law_pool_here", "_law_name_here", "_law_elder", "_law_own", "_law_heads_here", "_law_word", "_law_mine", "_law_number", "_law_head", "_law_other"]
theorem scAlone : FnScope nAlone ["_law_hall", "_law_rows_here", "_law_row", "_law_pool_here"] (defScope sAlone) := ⟨rfl, rfl, rfl, by decide +kernel, rfl, by decide +kernel, by decide +kernel⟩
def encM (name : Str) (k : Nat) : D := .tup [.str name, .int (k : Int)]
theorem ok_alone {f C : Addr} {fd : FuncData} (F : Fun K "_law_alone" "_law_alone" sAlone f fd) (T : Blt mg) (cE : MetD P w K mg base 1 C "elders" (RElders2 C)) (cY : MetD P w K mg base 2 C "younger" (RYounger C)) (cF : MetD P w K mg base 2 C "fields" (RFieldsH C)) (cW : MetD P w K mg base 2 C "found" (RFound C))
    (cH : MetD P w K mg base 1 C "houses" (RHouses C)) : FnOk P w K mg base CX0 4 f fd ["_law_hall", "_law_rows_here", "_law_row", "_law_pool_here"] (spD K (RAlone C)) := by
  refine fn_data F scAlone (fun ds d h => ?_) (fun cdv A outer s H E hr ds d h => ?_)
  · obtain ⟨_, _, _, rfl, _⟩ := h
    rfl
  · obtain ⟨rows, r, wl, rfl, R, hr2, hfl, rfl⟩ := h
    have hrb : bareR r ∈ rows.map bareR := List.mem_map.mpr ⟨r, hr2, rfl⟩
    have hh : r.name ∈ nameL (rows.map bareR) := List.mem_map.mpr ⟨bareR r, hrb, rfl⟩
    have hnl : nameL (rows.map bareR) = nameL rows := by unfold nameL; rw [List.map_map]; rfl
    have hhl : r.heads.length ≤ 8 := R.hl (bareR r) hrb
    have hff : fieldsH (rows.map bareR) (fun _ => []) r.name = r.fields := (fields_eq R hrb).trans rfl
    have hrow : rowOf (rows.map bareR) r.name = bareR r := rowOf_of R.nd hrb
    refine sds_cons (sd_asg (ee_var 2) (pg4 (i := 4) (j := 5) (m := 6) (n := 7) scAlone.nd) tg4) ?_
    refine sds_cons (sd_ifF (EW.toT (ew_orF (et_is (et_neNil (n := 1) hr (ee_is (ee_meth cE hr (by decide) (ee_var 0) (by rfl) (ea_cons (ee_var 4) ea_nil) ⟨rows.map bareR, _, r.name, rfl, R, hh, rfl⟩) (y := .list []) rfl) (EN.ee (en_lst ea_nil)) (.list fun _ h => nomatch h)) rfl)
      (ew_orF (et_is (et_neNil (n := 1) hr (ee_is (ee_meth cY hr (by decide) (ee_var 0) (by rfl) (ea_cons (ee_var 4) ea_nil) ⟨rows.map bareR, _, r.name, rfl, R, rfl⟩) (y := .list []) (by rw [List.filter_eq_nil_iff.mpr (by simp)]; rfl)) (EN.ee (en_lst ea_nil)) (.list fun _ h => nomatch h)) rfl)
        (ew_or1 (et_ne (d := .list (r.fields.map encP)) hr (ee_is (ee_meth cF hr (by decide) (ee_var 0) (by rfl) (ea_cons (ee_var 4) ea_nil) ⟨rows.map bareR, _, r.name, rfl, R, hh, rfl⟩) (by rw [hff])) (EN.ee (en_listT T.list (ee_var 6))) (pl_Ps (R.okf (bareR r) hrb))))))) sds_nil) ?_
    refine sds_cons (sd_for1 (as := wl) (P := fun _ => [.dat (hallD C (rows.map bareR)), .dat (.list (rows.map encR)), .dat (encR r), .dat (.list (wl.map D.str)), .dat (.str r.name), .dat (encE r.elder), .dat (.tup (r.fields.map encP)), .dat (.list (r.heads.map encH)), .no, .no, .no, .no, .no]) 8 D.str scAlone.nd (ie_list (ee_var 3)) rfl (fun pre wd post e => ?_)) ?_
    · generalize hmi : (List.range r.heads.length).filter (fun i => decide ((r.heads.getD i noHead).word = wd)) = mine
      have hml : mine.length ≤ 8 := by
        rw [← hmi]
        refine Nat.le_trans (List.length_filter_le _ _) ?_
        rw [List.length_range]
        exact hhl
      refine sds_less (i := 8) (ρ1 := [.dat (hallD C (rows.map bareR)), .dat (.list (rows.map encR)), .dat (encR r), .dat (.list (wl.map D.str)), .dat (.str r.name), .dat (encE r.elder), .dat (.tup (r.fields.map encP)), .dat (.list (r.heads.map encH)), .dat (.str wd), .no, .no, .no, .no]) ?_
      refine sds_less (i := 9) (ρ1 := [.dat (hallD C (rows.map bareR)), .dat (.list (rows.map encR)), .dat (encR r), .dat (.list (wl.map D.str)), .dat (.str r.name), .dat (encE r.elder), .dat (.tup (r.fields.map encP)), .dat (.list (r.heads.map encH)), .dat (.str wd), .dat (.list (mine.map (encM r.name))), .no, .no, .no]) ?_
      refine sds_cons (ρ1 := [.dat (hallD C (rows.map bareR)), .dat (.list (rows.map encR)), .dat (encR r), .dat (.list (wl.map D.str)), .dat (.str r.name), .dat (encE r.elder), .dat (.tup (r.fields.map encP)), .dat (.list (r.heads.map encH)), .dat (.str wd), .dat (.list (mine.map (encM r.name))), .no, .no, .no])
        (sd_to (sd_frozen (sd_setLc (i := 9) (as := List.range r.heads.length) (f := fun i => decide ((r.heads.getD i noHead).word = wd)) (e := encM r.name) (own := [("_law_number", 10), ("_law_head", 11)]) (enumD encH r.heads noHead) scAlone.nd (blkOk_by (N := nAlone) (sc := defScope sAlone) (by decide +kernel)) ((ie_enum T.enumerate (ee_var 7)).to (enum_eq encH r.heads noHead)) (by rw [List.length_range]; omega)
          (fun s H C cl fp => pg2 (i := 10) (j := 11) scAlone.nd) (fun i hi => ⟨_, _, tg2, by decide, ebt_one (fun s H0 C cl fp => et_eqS (ee_ixT (ee_var 11) ee_int) (ee_var 8)), fun _ s H0 C cl fp => ee_tup (ea_cons (ee_var 4) (ea_cons (ee_var 10) ea_nil))⟩)) (i := 9)) (by rw [hmi]; rfl)) ?_
      refine sds_one (sd_ifF (et_ne (d := encFd (foundH (rows.map bareR) (fun _ => []) r.name wd)) hr (ee_meth cW hr (by decide) (ee_var 0) (by rfl) (ea_cons (ee_var 4) (ea_cons (ee_var 8) ea_nil)) ⟨rows.map bareR, _, r.name, wd, rfl, R, hh, rfl⟩)
        (ee_ixL (EN.ee (en_cat (ee_var 9) (EN.ee (en_lst (ea_cons ee_non ea_nil))) (by rw [List.length_map]; show _ + 1 ≤ _; omega))) ee_int ?_) (pl_Fd R hrb wd)) sds_nil)
      unfold foundH foundL
      rw [hrow]
      show atI (mine.map (encM r.name) ++ [D.non]) 0 = some (encFd (match ixOf (r.heads.map (·.word)) wd with
        | some k => some (r.name, k)
        | none => foundL (rows.map bareR) wd []))
      cases hix : ixOf (r.heads.map (·.word)) wd with
      | some k =>
        obtain ⟨hk, rest, e1⟩ := mine_some hix
        rw [hmi] at e1
        subst e1
        exact at_head _ _
      | none =>
        have e1 := mine_none hix
        rw [hmi] at e1
        subst e1
        exact at_head _ _
    · refine sds_ret (sd_ret (ee_eq (n := 1) hr (ee_meth0 cH hr (by decide) (ee_var 0) (by rfl) ⟨rows.map bareR, rfl, rfl⟩) (EN.ee (en_is (en_lc1 (as := rows) (e := fun r => .str r.name) encR 12 scAlone.nd (blkOk_by (N := nAlone) (sc := defScope sAlone) (by decide +kernel)) (ie_list (ee_var 1)) ?_ (fun r hr s H0 C cl fp => ee_ixT (ee_var 12) ee_int)) ?_)) (pl_strs fun s hs => ?_)))
      · have := R.len
        rw [List.length_map] at this
        omega
      · rw [hnl]
        unfold nameL
        rw [List.map_map]
        rfl
      · obtain ⟨q, hq, rfl⟩ := List.mem_map.mp hs
        exact R.okn q hq
end
end EH

set_option maxRecDepth 100000
set_option maxHeartbeats 4000000
/-! __init__ of a class whose instances hold data. -/
namespace DL
open PySem PySem.Spec PyProof.Rows L2 Evl
section
variable {K : PySem.W.Frag} {B H H2 : Hp} {F0 F : List Addr} {σ : L2.St} {ρ : List Slot} {x C : Addr}
/-- a hidden record of ours has changed -/
theorem ST.poke (h : ST K B F0 F σ H ρ) (n : noOwn ρ = true) (hx : x ∈ F) (hb : B x = none) (e : ∀ a o, a ≠ x → H a = some o → H2 a = some o) (h2 : H2 x ≠ none) : ST K B F0 F σ H2 ρ := by
  have ne : ∀ a o, B a = some o → a ≠ x := fun a o q z => by rw [z, hb] at q; cases q
  have hh : Ex (hide F H) (hide F H2) := fun a o q => by
    obtain ⟨q1, q2⟩ := hide_at q
    exact hide_some q1 (e a o (fun z => q1 (z ▸ hx)) q2)
  refine ⟨⟨fun a o q => e a o (ne a o q) (h.hs.ex a o q), h.hs.sub, h.hs.new, fun a ha => ?_, h.hs.dom0⟩, h.len, fun i s q => ?_, h.ap⟩
  · by_cases z : a = x
    · rw [z]; exact h2
    · cases q : H a with
      | none => exact absurd q (h.hs.dom a ha)
      | some o => rw [e a o z q]; simp
  · have z := h.sl i s q
    cases s with
    | no => trivial
    | own ds => exact absurd q (noOwn_at n)
    | dat d =>
      obtain ⟨v, e1, r⟩ := z
      exact ⟨v, e1, r.mono hh⟩
theorem hide_poke (hx : x ∈ F) (e : ∀ a o, a ≠ x → H a = some o → H2 a = some o) : Ex (hide F H) (hide F H2) := fun a o q => by
  obtain ⟨q1, q2⟩ := hide_at q
  exact hide_some q1 (e a o (fun z => q1 (z ▸ hx)) q2)
theorem RpKv.put {G : Hp} {f : Str} {v : V} {d : D} (hv : Rp K G v d) : ∀ {gs : List (Str × V)} {fs : List (Str × D)}, RpKv K G gs fs → fs.lookup f = none → RpKv K G (putF f v gs) (fs ++ [(f, d)])
  | _, _, .nil, _ => .cons hv .nil
  | _, _, .cons (k := k) h r, e => by
    rw [List.lookup_cons] at e
    cases hk : f == k with
    | true => rw [hk] at e; cases e
    | false =>
      rw [hk] at e
      have : ¬ k = f := fun z => by simp [z] at hk
      unfold putF
      rw [if_neg this]
      exact .cons h (RpKv.put hv r e)
theorem RpKv.len : ∀ {gs : List (Str × V)} {fs : List (Str × D)}, RpKv K H gs fs → gs.length = fs.length
  | _, _, .nil => rfl
  | _, _, .cons _ r => by rw [List.length_cons, List.length_cons, RpKv.len r]
end
/-- the instance at x, its attributes -/
def MeH (K : PySem.W.Frag) (x C : Addr) (F : List Addr) (H : Hp) (fs : List (Str × D)) : Prop := ∃ dx gs, H x = some (.ins C dx gs) ∧ RpKv K (hide F H) gs fs
def SvM (K : PySem.W.Frag) (C : Addr) (t : TS) (ρ : List Slot) (fs fs1 : List (Str × D)) : Prop := ∀ (B : Hp) (F0 F : List Addr) (σ : L2.St) (H : Hp) (x : Addr), ST K B F0 F σ H ρ → x ∈ F → B x = none → σ[0]? = some (some (.ref x)) → MeH K x C F H fs → ∀ De : Ends,
  (∀ H', ST K B F0 F σ H' ρ → MeH K x C F H' fs1 → De.nx σ H') → t De σ H
/-- a promise: the first argument's attributes fs become fs1 -/
def spM (K : PySem.W.Frag) (C : Addr) (R : List D → List (Str × D) → List (Str × D) → Prop) : Sp := fun vs H Q _ => ∃ (x : Addr) (F : List Addr) (us : List V) (ds : List D) (fs fs1 : List (Str × D)), vs = .ref x :: us ∧ x ∈ F ∧ (∀ a ∈ F, H a ≠ none) ∧ RpAll K (hide F H) us ds ∧ MeH K x C F H fs ∧ R ds fs fs1 ∧
  ∀ H2, (∀ a o, a ≠ x → H a = some o → H2 a = some o) → MeH K x C F H2 fs1 → Q .non H2
section
variable {K : PySem.W.Frag} {C : Addr} {t u : TS} {te : TE} {ta : TA} {ρ : List Slot} {fs fs1 fs2 : List (Str × D)} {f : Str} {d : D} {ds : List D} {R : List D → List (Str × D) → List (Str × D) → Prop}
theorem svm_seq (h1 : SvM K C t ρ fs fs1) (h2 : SvM K C u ρ fs1 fs2) : SvM K C (tSeq t u) ρ fs fs2 := fun B F0 F σ H x S hx hb h0 m De k => h1 B F0 F σ H x S hx hb h0 m { De with nx := u De } fun H' S' m' => h2 B F0 F σ H' x S' hx hb h0 m' De k
theorem svm_fld (n : noOwn ρ = true) (h : EvD K te ρ d) (hc : Cls K C) (hn : NoAttr K C f) (hf : fs.lookup f = none) (hl : fs.length < 1000) : SvM K C (sFld K (tVar 0) te f) ρ fs (fs ++ [(f, d)]) := fun B F0 F σ H x S hx hb h0 m De k => by
  refine h B F0 F σ H S _ fun v H1 e1 r1 => ?_
  obtain ⟨dx, gs, hH, rk⟩ := m
  have rk1 := rk.mono (hide_mono (F := F) e1)
  refine ⟨.ref x, h0, x, C, dx, gs, rfl, e1 _ _ hH, hc, hn, by rw [rk.len]; exact hl, ?_⟩
  have ep : ∀ a o, a ≠ x → H1 a = some o → upd H1 x (.ins C dx (putF f v gs)) a = some o := fun a o ha q => by rw [upd_ne ha]; exact q
  have hh := hide_poke hx ep
  refine k _ ((S.mono e1).poke n hx hb ep (by rw [upd_same]; simp)) ⟨dx, _, upd_same, RpKv.put (r1.mono hh) (rk1.mono hh) hf⟩
theorem svm_call (n : noOwn ρ = true) (ha : EvAD K ta ρ ds) (hR : R ds fs fs1) : SvM K C (tDrop (tCall (spM K C R) [] E0 (tCons (tVar 0) ta))) ρ fs fs1 := fun B F0 F σ H x S hx hb h0 m De k => by
  refine ⟨.ref x, h0, ?_⟩
  refine ha B F0 F σ H S _ fun us H1 e1 r1 => ?_
  obtain ⟨dx, gs, hH, rk⟩ := m
  have S1 := S.mono e1
  refine ⟨x, F, us, ds, fs, fs1, by rw [List.append_nil], hx, S1.hs.dom, r1, ⟨dx, gs, e1 _ _ hH, rk.mono (hide_mono e1)⟩, hR, fun H2 ep m2 => ?_⟩
  refine k H2 (S1.poke n hx hb ep ?_) m2
  obtain ⟨_, _, z, _⟩ := m2
  rw [z]
  simp
end
structure MDs (X : Cx) (C : Addr) (st : List Stmt) (ρ : List Slot) (fs fs1 : List (Str × D)) : Prop where
  ev : SvM X.K C (wSs X st) ρ fs fs1
structure MD (X : Cx) (C : Addr) (st : Stmt) (ρ : List Slot) (fs fs1 : List (Str × D)) : Prop where
  ev : SvM X.K C (wS X st) ρ fs fs1
section
variable {X : Cx} {C C2 : Addr} {ρ : List Slot} {fs fs1 fs2 : List (Str × D)} {st : Stmt} {rest : List Stmt} {f : Str} {d : D} {ds : List D} {e : Expr} {es : List Expr} {pos p1 p2 : Pos}
theorem MDs.of {sts : List Stmt} {t : TS} (h : PSs X sts t) (q : SvM X.K C t ρ fs fs1) : MDs X C sts ρ fs fs1 := ⟨fun B F0 F σ H x S hx hb h0 m De k pins s I => h.run pins s σ H De I (q B F0 F σ H x S hx hb h0 m De k)⟩
theorem MD.of {t : TS} (h : PS X st t) (q : SvM X.K C t ρ fs fs1) : MD X C st ρ fs fs1 := ⟨fun B F0 F σ H x S hx hb h0 m De k pins s I => h.run pins s σ H De I (q B F0 F σ H x S hx hb h0 m De k)⟩
theorem mds_one (h : MD X C st ρ fs fs1) : MDs X C [st] ρ fs fs1 := .of (pss_one ps_w) h.ev
theorem mds_cons (h1 : MD X C st ρ fs fs1) (h2 : MDs X C rest ρ fs1 fs2) : MDs X C (st :: rest) ρ fs fs2 := .of (pss_cons ps_w pss_w) (svm_seq h1.ev h2.ev)
/-- self.f = e -/
theorem md_fld {x : Str} (he : EE X e ρ d) (hc : Cls X.K C) (hn : NoAttr X.K C f) (hf : fs.lookup f = none := by rfl) (hl : fs.length < 1000 := by decide) (n : noOwn ρ = true := by rfl)
    (hN : X.N[0]? = some x := by rfl) (hv : Vis X.env.scope x := by first | exact Or.inl rfl | exact Or.inr (Or.inl rfl) | exact Or.inr (Or.inr rfl)) (hd : (x == ("__debug__" : Str)) = false := by decide)
    (hcd : (x == ("__classdict__" : Str)) = false := by decide) (hs : swapsWith e (some (.Attribute (.Name x p1) f p2)) pos.line X.env = pure false := by rfl) : MD X C (.Assign [.Attribute (.Name x p1) f p2] e pos) ρ fs (fs ++ [(f, d)]) :=
  .of (ps_fld (pe_var hN hv hd hcd) pe_w hs) (svm_fld n he.ev hc hn hf hl)
/-- D.m(..), D a class, m a plain def of it -/
theorem pe_clsf {CX : CXT} {k : Nat} {g : Addr} {fd : FuncData} {ps : List Str} {sp : Sp} {mc : Value} {E : XK} {x m : Str} {t : TA} {p apos : Pos} {pl : Sem Bool} (hg : Gl X x) (hm : X.mg x = some (.ref C2)) (r : ClX.CRead X.K C2 mc) (c : ClX.CVal X.K C2 mc m (.ref g) (.ref g)) (hkp : PySem.W.keepIn X.K (.ref g) = true)
    (F : FnOk X.prog X.w X.K X.mg X.base CX k g fd ps sp) (hr : Room k X.A) (hb : Binds X.K fd ps []) (hx : Passes CX X E) (ha : PA X (e :: es) t) (hdb : (x == ("__debug__" : Str)) = false := by decide)
    (hst : starEach (e :: es) X.env = (false, eval e X.env) :: starEach es X.env := by rfl) (hpl : (backTo pos (starEach es X.env)).any (·.1) = false := by rfl)
    (ht : eval (.Call (.Attribute (.Name x p) m apos) (e :: es) [] pos) X.env = (do
      let ov ← eval (.Name x p) X.env
      standAt apos.atName
      let (f, first) ← holding [ov] (getMethod ov m pl)
      callWith pos f first (backTo pos (starEach (e :: es) X.env)) (backToKw pos (keywordEach [] X.env))) := by rfl) :
    PE X (.Call (.Attribute (.Name x p) m apos) (e :: es) [] pos) (tCall sp [] E t) := by
  refine ⟨fun pins s σ H Q I h => ?_⟩
  refine PySem.W.methodCall_KW (pl := pl) (ld_glob I hg hm ?_ hdb) ht
  refine PySem.W.method_cls I.kIn r.ga (ClX.getcval_ok I r c fun s2 I2 => ?_)
  exact PySem.W.callWith_K (h₀ := X.base) I2.ok.mod.kin hkp (thn (ha.run pos pins s2 σ H _ I2 h) fun us s3 ⟨vs, H1, I3, rv, q⟩ => ⟨I3.kIn, run_fn F hr hb .nil hx I3 rv q⟩) hst hpl
/-- D.m(self, ..) as a statement -/
theorem md_up {k j : Nat} {g : Addr} {fd : FuncData} {ps : List Str} {mc : Value} {x y m : Str} {p apos cpos : Pos} {pl : Sem Bool} {R : List D → List (Str × D) → List (Str × D) → Prop} (hm : X.mg x = some (.ref C2)) (r : ClX.CRead X.K C2 mc) (c : ClX.CVal X.K C2 mc m (.ref g) (.ref g)) (hkp : PySem.W.keepIn X.K (.ref g) = true)
    (F : FnOk X.prog X.w X.K X.mg X.base CX0 k g fd ps (spM X.K C R)) (hr : Room j X.A) (hk : k ≤ j) (hb : Binds X.K fd ps []) (ha : EA X es ρ ds) (hR : R ds fs fs1) (hg : Gl X x := by rfl) (n : noOwn ρ = true := by rfl) (hdb : (x == ("__debug__" : Str)) = false := by decide) (hes : es.all notStar = true := by rfl)
    (hN : X.N[0]? = some y := by rfl) (hv : Vis X.env.scope y := by first | exact Or.inl rfl | exact Or.inr (Or.inl rfl) | exact Or.inr (Or.inr rfl)) (hd : (y == ("__debug__" : Str)) = false := by decide) (hcd : (y == ("__classdict__" : Str)) = false := by decide)
    (ht : eval (.Call (.Attribute (.Name x p) m apos) (.Name y p1 :: es) [] cpos) X.env = (do
      let ov ← eval (.Name x p) X.env
      standAt apos.atName
      let (f, first) ← holding [ov] (getMethod ov m pl)
      callWith cpos f first (backTo cpos (starEach (.Name y p1 :: es) X.env)) (backToKw cpos (keywordEach [] X.env))) := by rfl)
    (hsw : swapsWith (.Call (.Attribute (.Name x p) m apos) (.Name y p1 :: es) [] cpos) none pos.line X.env = pure false := by rfl) : MD X C (.Expr (.Call (.Attribute (.Name x p) m apos) (.Name y p1 :: es) [] cpos) pos) ρ fs fs1 :=
  .of (ps_expr (pe_clsf hg hm r c hkp F (hr.mono hk) hb pass0 (pa_cons (pe_var hN hv hd hcd) pa_w (star_cons rfl)) hdb (star_cons rfl) (star_all hes) ht) hsw) (svm_call n ha.ev hR)
/-- max, sum of ints -/
theorem ee_max {ns : List Int} {i : Int} {p : Pos} (hm : X.mg "max" = none) (h : EE X e ρ (.list (ns.map D.int))) (hi : ∀ m, m ∈ ns → (∀ y, y ∈ ns → y ≤ m) → m = i) (h0 : 0 < ns.length) (hc : X.calm = true := by rfl) (hg : Gl X "max" := by rfl) (he : notStar e = true := by rfl) : EE X (.Call (.Name "max" p) [e] [] pos) ρ (.int i) :=
  .of (pe_callB (cr_max hc) hg hm (by decide +kernel) (pa_cons pe_w pa_nil (star_cons he)) (by decide) (by decide) (star_cons he)) (evd_cb (evad_cons h.ev evad_nil) fun F H vs dom r Q q => by
    cases r with
    | cons r rn =>
      cases rn
      obtain ⟨a, xs, rfl, hx, rx⟩ := r.list_inv
      obtain rfl := rx.ints
      exact ⟨a, ns, rfl, .inl (.inl (hide_sub _ _ hx)), h0, fun m hm hy => q _ H (Ex.refl H) (by rw [hi m hm hy]; exact .int _)⟩)
theorem ee_sum {ns : List Int} {p : Pos} (hm : X.mg "sum" = none) (h : EE X e ρ (.list (ns.map D.int))) (hc : X.calm = true := by rfl) (hg : Gl X "sum" := by rfl) (he : notStar e = true := by rfl) : EE X (.Call (.Name "sum" p) [e] [] pos) ρ (.int ns.sum) :=
  .of (pe_callB (cr_sum hc) hg hm (by decide +kernel) (pa_cons pe_w pa_nil (star_cons he)) (by decide) (by decide) (star_cons he)) (evd_cb (evad_cons h.ev evad_nil) fun F H vs dom r Q q => by
    cases r with
    | cons r rn =>
      cases rn
      obtain ⟨a, xs, rfl, hx, rx⟩ := r.list_inv
      obtain rfl := rx.ints
      exact ⟨a, ns, rfl, .inl (.inl (hide_sub _ _ hx)), q _ H (Ex.refl H) (.int _)⟩)
end
/-! ### the defs -/
def initM (N : List Str) (ds : List D) : List Slot := .no :: (ds.map .dat ++ List.replicate (N.length - (ds.length + 1)) .no)
theorem initM_no (N : List Str) (ds : List D) : noOwn (initM N ds) = true := by
  unfold initM
  show noOwn (_ ++ _) = true
  induction ds with
  | nil =>
    show noOwn (List.replicate _ _) = true
    generalize N.length - _ = n
    induction n with
    | zero => rfl
    | succ n ih => rw [List.replicate_succ]; exact ih
  | cons d ds ih =>
    have all : ∀ (l : List D) (n : Nat), noOwn (l.map .dat ++ List.replicate n .no) = true := by
      intro l n
      induction l with
      | nil =>
        induction n with
        | zero => rfl
        | succ n ih => rw [List.replicate_succ]; exact ih
      | cons d l ih => exact ih
    exact all _ _
section
variable {P : Program} {w : World} {K : PySem.W.Frag} {mg : Str → Option Value} {base : Heap}
theorem st_me {N : List Str} {H : Hp} {F : List Addr} {x : Addr} {us : List V} {ds : List D} (dom : ∀ a ∈ F, H a ≠ none) (hx : x ∈ F) (r : RpAll K (hide F H) us ds) : ST K (hide [x] H) (F.filter fun a => decide (a ≠ x)) F (L2.start N (.ref x :: us)) H (initM N ds) := by
  have hlen := r.len
  have hBx : hide [x] H x = none := by unfold hide; rw [if_pos (by simp)]
  refine ⟨⟨hide_sub, fun a ha => (List.mem_filter.mp ha).1, fun a ha => ?_, dom, fun a ha => ?_⟩, by simp [initM, L2.start, hlen], fun i s q => ?_, fun i j d1 d2 p _ q1 _ _ => absurd q1 (noOwn_at (initM_no N ds))⟩
  · by_cases z : a = x
    · rw [z]; exact .inr hBx
    · exact .inl (List.mem_filter.mpr ⟨ha, by simpa using z⟩)
  · obtain ⟨h1, h2⟩ := List.mem_filter.mp ha
    unfold hide
    rw [if_neg (by simpa using h2)]
    exact dom a h1
  · cases i with
    | zero =>
      have : some Slot.no = some s := q
      cases this
      trivial
    | succ i =>
      have q : (ds.map Slot.dat ++ List.replicate (N.length - (ds.length + 1)) .no)[i]? = some s := q
      have e0 : (L2.start N (.ref x :: us))[i + 1]? = (us.map some ++ List.replicate (N.length - (us.length + 1)) none)[i]? := rfl
      rw [e0]
      by_cases hi : i < ds.length
      · rw [List.getElem?_append_left (by simpa using hi), List.getElem?_map, List.getElem?_eq_getElem hi] at q
        cases q
        obtain ⟨v, e, rv⟩ := r.get (List.getElem?_eq_getElem hi)
        exact ⟨v, by rw [List.getElem?_append_left (by simpa [hlen] using hi), List.getElem?_map, e]; rfl, rv⟩
      · rw [List.getElem?_append_right (by simpa using hi), List.getElem?_replicate] at q
        split at q
        · cases q
          trivial
        · cases q
/-- THE RULE: an __init__ by its body -/
theorem fn_me {x qual : Str} {st : Stmt} {f C : Addr} {fd : FuncData} {N ps : List Str} {k : Nat} {R : List D → List (Str × D) → List (Str × D) → Prop} (F : Fun K x qual st f fd) (S : FnScope N ps (defScope st)) (len : ∀ ds fs fs1, R ds fs fs1 → ds.length + 1 = ps.length)
    (body : ∀ (cdv : Value) (A : Around) (outer : List Env) (s : Shared) (H : Hp) (E : XK), Room k (A.deeper (envOfC qual (defScope st) s.heap.objs.size f cdv)) → ∀ ds fs fs1, R ds fs fs1 →
      MDs (cxOf CX0 P w K mg base N qual (defScope st) f cdv A outer s H E).nox C (defBody st) (initM N ds) fs fs1) : FnOk P w K mg base CX0 (k + 1) f fd ps (spM K C R) := by
  refine F.ok S (fun vs H Q E h => ?_) (fun cdv A outer s H vs Q E hr h => ?_)
  · obtain ⟨x, F, us, ds, fs, fs1, rfl, _, _, r, _, hR, _⟩ := h
    rw [List.length_cons, r.len]
    exact len ds fs fs1 hR
  · obtain ⟨x, Fr, us, ds, fs, fs1, rfl, hx, dom, r, m, hR, q⟩ := h
    refine ⟨_, pss_w, (body cdv A outer s H E hr ds fs fs1 hR).ev _ _ Fr (L2.start N (.ref x :: us)) H x (st_me dom hx r) hx (by unfold hide; rw [if_pos (by simp)]) rfl m _ fun H2 S2 m2 => q H2 (fun a o ha e => S2.hs.ex a o ?_) m2⟩
    exact hide_some (by simpa using ha) e
/-- .. as the making of an instance -/
theorem me_init {k : Nat} {f C : Addr} {fd : FuncData} {ps : List Str} {R : List D → List (Str × D) → List (Str × D) → Prop} (F : FnOk P w K mg base CX0 k f fd ps (spM K C R)) : FnOk P w K mg base CX0 k f fd ps (spI K C fun ds fs => R ds [] fs) :=
  F.imp fun vs H Q E h => by
    obtain ⟨x, dx, H0, Fr, us, ds, fs, rfl, hx, hdx, ne, rfl, dom, r, hR, q⟩ := h
    have e0 : ∀ a o, H0 a = some o → upd (upd H0 dx (.own x)) x (.ins C dx []) a = some o := fun a o e => by
      rw [upd_ne (fun z => by rw [z, hx] at e; cases e), upd_ne (fun z => by rw [z, hdx] at e; cases e)]
      exact e
    have hxF : x ∉ Fr := fun z => dom x z hx
    refine ⟨x, x :: Fr, us, ds, [], fs, rfl, List.mem_cons_self, fun a ha => ?_, r.mono (hide_more hx e0), ⟨dx, [], upd_same, .nil⟩, hR, fun H2 ep m2 => ?_⟩
    · rcases List.mem_cons.mp ha with z | z
      · rw [z, upd_same]; simp
      · cases e : H0 a with
        | none => exact absurd e (dom a z)
        | some o => rw [e0 a o e]; simp
    · obtain ⟨dx2, gs, hH, rk⟩ := m2
      refine q H2 (fun a o e => ep a o (fun z => by rw [z, hx] at e; cases e) (e0 a o e)) (.ins (hide_some hxF hH) (rk.mono (hide_anti fun a ha => List.mem_cons_of_mem _ ha)))
end
end DL

set_option maxRecDepth 100000
set_option maxHeartbeats 4000000
/-! Terms, programs: made, walked. -/
namespace EH
open PySem PySem.Spec PyProof.Rows L2 DL
def termF0 : List (Str × D) := [("inner", .list []), ("height", .int 1), ("many", .int 1)]
def termF (n : Int) : List (Str × D) := [("inner", .list []), ("height", .int 1), ("many", .int 1), ("number", .int n)]
def termD (CN : Addr) : D := .ins CN (termF 0)
def RTermInit (ds : List D) (fs fs1 : List (Str × D)) : Prop := ds = [.list []] ∧ fs = [] ∧ fs1 = termF0
def RNumInit (ds : List D) (fs fs1 : List (Str × D)) : Prop := ∃ n : Int, ds = [.int n] ∧ fs = [] ∧ fs1 = termF n
def encT2 (CN : Addr) (h : HHead) : D := .tup [.str h.word, .tup (h.params.map encP), .str h.kind, termD CN]
def encB2 (CN : Addr) (r : HRow) : D := .tup [.str r.name, encE r.elder, .tup (r.fields.map encP), .list (r.heads.map (encT2 CN))]
def progF (a b : D) : List (Str × D) := [("houses_told", a), ("main_told", b)]
def mainD (CN : Addr) : D := .tup [.tup [], .str "number", termD CN]
def progD (CP CN : Addr) (rows : List HRow) : D := .ins CP (progF (.list (rows.map (encB2 CN))) (mainD CN))
def RProgInit (ds : List D) (fs fs1 : List (Str × D)) : Prop := ∃ (xs : List D) (b : D), ds = [.list xs, b] ∧ fs = [] ∧ fs1 = progF (.list xs) b
def RLeaf (CN : Addr) (ds : List D) (d : D) : Prop := ds = [plain0] ∧ d = termD CN
def RProgOf (CP CN : Addr) (ds : List D) (d : D) : Prop := ∃ rows, ds = [encProg rows] ∧ Sz rows ∧ d = progD CP CN rows
/-- what of the text NumberTerm must have -/
structure NC (K : PySem.W.Frag) (C : Addr) : Prop where
  cls : Cls K C
  inner : NoAttr K C "inner"
  height : NoAttr K C "height"
  many : NoAttr K C "many"
  number : NoAttr K C "number"
structure PC (K : PySem.W.Frag) (C : Addr) : Prop where
  cls : Cls K C
  houses : NoAttr K C "houses_told"
  main : NoAttr K C "main_told"
section
variable {P : Program} {w : World} {K : PySem.W.Frag} {mg : Str → Option Value} {base : Heap}
/-! Term.__init__ -/
abbrev mTermInit : Stmt := methOf (topS 4) 0
abbrev nTermInit : List Str := ["self", "inner", "part"]
theorem scTermInit : FnScope nTermInit ["self", "inner"] (defScope mTermInit) := ⟨rfl, rfl, rfl, by decide +kernel, rfl, by decide +kernel, by decide +kernel⟩
theorem ok_termInit {f C : Addr} {fd : FuncData} (F : Fun K "__init__" "Term.__init__" mTermInit f fd) (T : Blt mg) (c : NC K C) : FnOk P w K mg base CX0 1 f fd ["self", "inner"] (spM K C RTermInit) := by
  refine fn_me F scTermInit (fun ds fs fs1 h => by rw [h.1]; rfl) (fun cdv A outer s H E hr ds fs fs1 h => ?_)
  obtain ⟨rfl, rfl, rfl⟩ := h
  refine mds_cons (md_fld (EN.ee (en_list T.list (ee_var 1))) c.cls c.inner) ?_
  refine mds_cons (md_fld (ee_add ee_int (ee_max (ns := [0]) (i := 0) T.max (EN.ee (en_cat (EN.ee (en_lc1 (as := ([] : List D)) (e := id) id 2 scTermInit.nd (blkOk_by (N := nTermInit) (sc := defScope mTermInit) (by decide +kernel)) (ie_list (ee_var 1)) (by decide) (fun a ha => nomatch ha))) (EN.ee (en_lst (ea_cons ee_int ea_nil))) (by decide))) (fun m hm _ => by simpa using hm) (by decide))) c.cls c.height) ?_
  exact mds_one (md_fld (ee_add ee_int (ee_sum (ns := []) T.sum (EN.ee (en_lc1 (as := ([] : List D)) (e := id) id 2 scTermInit.nd (blkOk_by (N := nTermInit) (sc := defScope mTermInit) (by decide +kernel)) (ie_list (ee_var 1)) (by decide) (fun a ha => nomatch ha))))) c.cls c.many)
/-! NumberTerm.__init__ -/
abbrev mNumInit : Stmt := methOf (topS 6) 0
abbrev nNumInit : List Str := ["self", "number"]
theorem scNumInit : FnScope nNumInit ["self", "number"] (defScope mNumInit) := ⟨rfl, rfl, rfl, by decide +kernel, rfl, by decide +kernel, by decide +kernel⟩
theorem ok_numInit {f g C CT : Addr} {fd gd : FuncData} {mc : Value} (F : Fun K "__init__" "NumberTerm.__init__" mNumInit f fd) (T : Blt mg) (c : NC K C) (hm : mg "Term" = some (.ref CT)) (r : ClX.CRead K CT mc) (cv : ClX.CVal K CT mc "__init__" (.ref g) (.ref g)) (hkp : PySem.W.keepIn K (.ref g) = true)
    (G : FnOk P w K mg base CX0 1 g gd ["self", "inner"] (spM K C RTermInit)) (hb : Binds K gd ["self", "inner"] []) : FnOk P w K mg base CX0 2 f fd ["self", "number"] (spM K C RNumInit) := by
  refine fn_me F scNumInit (fun ds fs fs1 h => by obtain ⟨n, h, _⟩ := h; rw [h]; rfl) (fun cdv A outer s H E hr ds fs fs1 h => ?_)
  obtain ⟨n, rfl, rfl, rfl⟩ := h
  refine mds_cons (md_up hm r cv hkp G hr (by decide) hb (ea_cons (EN.ee (en_lst ea_nil)) ea_nil) ⟨rfl, rfl, rfl⟩) ?_
  exact mds_one (md_fld (ee_var 1) c.cls c.number)
/-! Program.__init__ -/
abbrev mProgInit : Stmt := methOf (topS 19) 0
abbrev nProgInit : List Str := ["self", "houses_told", "main_told"]
theorem scProgInit : FnScope nProgInit ["self", "houses_told", "main_told"] (defScope mProgInit) := ⟨rfl, rfl, rfl, by decide +kernel, rfl, by decide +kernel, by decide +kernel⟩
theorem ok_progInit {f C : Addr} {fd : FuncData} (F : Fun K "__init__" "Program.__init__" mProgInit f fd) (T : Blt mg) (c : PC K C) : FnOk P w K mg base CX0 1 f fd ["self", "houses_told", "main_told"] (spM K C RProgInit) := by
  refine fn_me F scProgInit (fun ds fs fs1 h => by obtain ⟨_, _, h, _⟩ := h; rw [h]; rfl) (fun cdv A outer s H E hr ds fs fs1 h => ?_)
  obtain ⟨xs, b, rfl, rfl, rfl⟩ := h
  refine mds_cons (md_fld (EN.ee (en_list T.list (ee_var 1))) c.cls c.houses) ?_
  exact mds_one (md_fld (ee_var 2) c.cls c.main (hl := (by decide : 1 < 1000)))
/-! leaf_of, term_of -/
abbrev sLeaf : Stmt := topS 21
theorem scLeaf : FnScope ["plain"] ["plain"] (defScope sLeaf) := ⟨rfl, rfl, rfl, by decide +kernel, rfl, by decide +kernel, by decide +kernel⟩
theorem ok_leaf {f CN : Addr} {fd : FuncData} (F : Fun K "leaf_of" "leaf_of" sLeaf f fd) (T : Blt mg) (c : MakD P w K mg base 2 "NumberTerm" CN fun ds fs => RNumInit ds [] fs) : FnOk P w K mg base CX0 4 f fd ["plain"] (spD K (RLeaf CN)) := by
  refine fn_data F scLeaf (fun ds d h => by rw [h.1]; rfl) (fun cdv A outer s H E hr ds d h => ?_)
  obtain ⟨rfl, rfl⟩ := h
  exact sds_ret (sd_ifT (et_is (et_eqS (ee_ixT (ee_var 0) ee_int) ee_str) (decide_eq_true rfl)) (sds_ret (sd_ret (ee_make c hr (by decide) (ea_cons (ee_ixT (ee_var 0) ee_int) ea_nil) ⟨0, rfl, rfl, rfl⟩))))
abbrev sTerm : Stmt := topS 23
abbrev nTerm : List Str := ["plain", "found"]
theorem scTerm : FnScope nTerm ["plain"] (defScope sTerm) := ⟨rfl, rfl, rfl, by decide +kernel, rfl, by decide +kernel, by decide +kernel⟩
theorem ok_term {f CN : Addr} {fd : FuncData} (F : Fun K "term_of" "term_of" sTerm f fd) (T : Blt mg) (c : CalD P w K mg base 4 "leaf_of" (RLeaf CN)) : FnOk P w K mg base CX0 5 f fd ["plain"] (spD K (RLeaf CN)) := by
  refine fn_data F scTerm (fun ds d h => by rw [h.1]; rfl) (fun cdv A outer s H E hr ds d h => ?_)
  obtain ⟨rfl, rfl⟩ := h
  refine sds_cons (sd_set (i := 1) scTerm.nd (ee_call c hr (by decide) (ea_cons (ee_var 0) ea_nil) ⟨rfl, rfl⟩)) ?_
  refine sds_cons (sd_ifF (et_is (et_isN (ee_var 1)) rfl) sds_nil) ?_
  exact sds_ret (sd_ifT (et_is (et_notN (ee_var 1)) rfl) (sds_ret (sd_ret (ee_var 1))))
/-! program_of -/
abbrev sProgOf : Stmt := topS 24
abbrev nProgOf : List Str := ["plain", "houses", "name", "elder", "fields", "told", "params", "kind", "term", "word"]
theorem scProgOf : FnScope nProgOf ["plain"] (defScope sProgOf) := ⟨rfl, rfl, rfl, by decide +kernel, rfl, by decide +kernel, by decide +kernel⟩
theorem ok_progOf {f CP CN : Addr} {fd : FuncData} (F : Fun K "program_of" "program_of" sProgOf f fd) (T : Blt mg) (c : CalD P w K mg base 5 "term_of" (RLeaf CN)) (m : MakD P w K mg base 1 "Program" CP fun ds fs => RProgInit ds [] fs) : FnOk P w K mg base CX0 6 f fd ["plain"] (spD K (RProgOf CP CN)) := by
  refine fn_data F scProgOf (fun ds d h => by obtain ⟨_, h, _⟩ := h; rw [h]; rfl) (fun cdv A outer s H E hr ds d h => ?_)
  obtain ⟨rows, rfl, Z, rfl⟩ := h
  refine sds_cons (sd_setN (i := 1) scProgOf.nd (en_lst ea_nil)) ?_
  refine sds_cons (ρ1 := [.dat (encProg rows), .own (rows.map (encB2 CN)), .no, .no, .no, .no, .no, .no, .no, .no])
    (sd_for (as := rows) (P := fun pre => [.dat (encProg rows), .own (pre.map (encB2 CN)), .no, .no, .no, .no, .no, .no, .no, .no]) encB (pg4 (i := 2) (j := 3) (m := 4) (n := 5) scProgOf.nd) (ie_tup (ee_ixT (ee_var 0) ee_int)) rfl (fun pre r post e => ⟨_, _, tg4, ?_⟩)) ?_
  · have hr1 : r ∈ rows := by rw [e]; simp
    have hh := Z.hl r hr1
    rw [List.map_append]
    have hxl : (pre.map (encB2 CN)).length ≤ 12 := by
      rw [List.length_map]
      have h1 := congrArg List.length e
      have := Z.len
      simp at h1
      omega
    generalize pre.map (encB2 CN) = xs at hxl
    refine sds_less (i := 2) (ρ1 := [.dat (encProg rows), .own (xs ++ _), .dat (.str r.name), .no, .no, .no, .no, .no, .no, .no]) ?_
    refine sds_less (i := 3) (ρ1 := [.dat (encProg rows), .own (xs ++ _), .dat (.str r.name), .dat (encE r.elder), .no, .no, .no, .no, .no, .no]) ?_
    refine sds_less (i := 4) (ρ1 := [.dat (encProg rows), .own (xs ++ _), .dat (.str r.name), .dat (encE r.elder), .dat (.tup (r.fields.map encP)), .no, .no, .no, .no, .no]) ?_
    refine sds_less (i := 5) (ρ1 := [.dat (encProg rows), .own (xs ++ _), .dat (.str r.name), .dat (encE r.elder), .dat (.tup (r.fields.map encP)), .dat (.tup (r.heads.map encT)), .no, .no, .no, .no]) ?_
    exact sds_one (sd_app (i := 1) (ee_tup (ea_cons (ee_var 2) (ea_cons (ee_var 3) (ea_cons (ee_var 4) (ea_cons (EN.ee (en_lc1 (as := r.heads) (e := encT2 CN) encT 9 scProgOf.nd (blkOk_by (N := nProgOf) (sc := defScope sProgOf) (by decide +kernel)) (ie_tup (ee_var 5)) (by omega)
      (fun h hh s H0 C cl fp => ee_tup (ea_cons (ee_ixT (ee_var 9) ee_int) (ea_cons (ee_ixT (ee_var 9) ee_int) (ea_cons (ee_ixT (ee_var 9) ee_int) (ea_cons (ee_call c hr (by decide) (ea_cons (ee_ixT (ee_var 9) ee_int) ea_nil) ⟨rfl, rfl⟩) ea_nil))))))) ea_nil))))) (by omega))
  · refine sds_freeze 1 (by rfl) ?_
    refine sds_cons (sd_asg (ee_ixT (d := .tup [.tup [], .str "number", plain0]) (ee_var 0) ee_int) (pg3 (i := 6) (j := 7) (m := 8) scProgOf.nd) tg3) ?_
    exact sds_ret (sd_ret (ee_make m hr (by decide) (ea_cons (ee_var 1) (ea_cons (ee_tup (ea_cons (ee_var 6) (ea_cons (ee_var 7) (ea_cons (ee_call c hr (by decide) (ea_cons (ee_var 8) ea_nil) ⟨rfl, rfl⟩) ea_nil)))) ea_nil)) ⟨_, _, rfl, rfl, rfl⟩))
end
end EH

set_option maxRecDepth 100000
set_option maxHeartbeats 4000000
/-! Hall.__init__ walked. -/
namespace EH
open PySem PySem.Spec PyProof.Rows L2 DL
def kk (p : Str × V) : Key × V := (Sum.inr p.1, p.2)
theorem putF_new {f : Str} {v : V} : ∀ {gs : List (Str × V)}, gs.lookup f = none → putF f v gs = gs ++ [(f, v)]
  | [], _ => rfl
  | (g, u) :: gs, h => by
    rw [List.lookup_cons] at h
    cases hk : f == g with
    | true => rw [hk] at h; cases h
    | false =>
      rw [hk] at h
      have : ¬ g = f := fun z => by simp [z] at hk
      unfold putF
      rw [if_neg this, putF_new h]
      rfl
theorem putK_new {k : Str} {v : V} {kv : List (Str × V)} (h : kv.lookup k = none) : putK (kv.map kk) (Sum.inr k) v = (kv ++ [(k, v)]).map kk := by
  have no : ((kv.map kk).any fun p => decide (p.1 = Sum.inr k)) = false := by
    induction kv with
    | nil => rfl
    | cons p kv ih =>
      obtain ⟨g, u⟩ := p
      rw [List.lookup_cons] at h
      cases hk : k == g with
      | true => rw [hk] at h; cases h
      | false =>
        rw [hk] at h
        have : ¬ g = k := fun z => by simp [z] at hk
        rw [List.map_cons, List.any_cons, ih h]
        simp [kk, this]
  unfold putK
  rw [no, List.map_append]
  rfl
section
variable {X : Cx} {B H : Hp} {F0 F : List Addr} {σ : L2.St} {ρ : List DL.Slot} {x C dx q : Addr} {fsV : List (Str × V)} {f k : Str} {d : D} {ds : List (Str × D)} {kv : List (Str × V)} {xs : List V} {De : Ends} {p1 p2 p3 pos cpos : Pos} {value keyE : Expr} {me : Str}
theorem ws_of {st : Stmt} {t : TS} (h : PS X st t) (q : t De σ H) : wS X st De σ H := fun pins s I => h.run pins s σ H De I q
/-- self.f = [] -/
theorem run_newL {e : Expr} (he : EN X e ρ []) (S : ST X.K B F0 F σ H ρ) (n : noOwn ρ = true) (hx : x ∈ F) (hb : B x = none) (h0 : σ[0]? = some (some (.ref x))) (hi : H x = some (.ins C dx fsV)) (hc : Cls X.K C) (hn : NoAttr X.K C f) (hf : fsV.lookup f = none) (hl : fsV.length < 1000)
    (k : ∀ q H4, H q = none → (∀ a o, a ≠ x → H a = some o → H4 a = some o) → H4 x = some (.ins C dx (fsV ++ [(f, .ref q)])) → H4 q = some (.lst []) → ST X.K B F0 (q :: F) σ H4 ρ → B q = none → De.nx σ H4)
    (hN : X.N[0]? = some me := by rfl) (hv : Vis X.env.scope me := by first | exact Or.inl rfl | exact Or.inr (Or.inl rfl) | exact Or.inr (Or.inr rfl)) (hd : (me == ("__debug__" : Str)) = false := by decide)
    (hcd : (me == ("__classdict__" : Str)) = false := by decide) (hs : swapsWith e (some (.Attribute (.Name me p1) f p2)) pos.line X.env = pure false := by rfl) : wS X (.Assign [.Attribute (.Name me p1) f p2] e pos) De σ H :=
  ws_of (ps_fld (pe_var hN hv hd hcd) pe_w hs) (by
    refine he.ev B F0 F σ H S _ fun q xs H1 hq e1 h1 r1 => ?_
    cases r1
    have hb2 := S.hs.freshB hq
    refine ⟨.ref x, h0, x, C, dx, fsV, rfl, e1 _ _ hi, hc, hn, hl, ?_⟩
    have hqx : q ≠ x := fun z => by rw [z, hi] at hq; cases hq
    have ep : ∀ a o, a ≠ x → H1 a = some o → upd H1 x (.ins C dx (putF f (.ref q) fsV)) a = some o := fun a o ha e => by rw [upd_ne ha]; exact e
    exact k q _ hq (fun a o ha e => ep a o ha (e1 a o e)) (by rw [upd_same, putF_new hf]) (ep q _ hqx h1) ((S.more hq e1 h1).poke n (List.mem_cons_of_mem _ hx) hb ep (by rw [upd_same]; simp)) hb2)
/-- self.f = {} -/
theorem run_newD (S : ST X.K B F0 F σ H ρ) (n : noOwn ρ = true) (hx : x ∈ F) (hb : B x = none) (h0 : σ[0]? = some (some (.ref x))) (hi : H x = some (.ins C dx fsV)) (hc : Cls X.K C) (hn : NoAttr X.K C f) (hf : fsV.lookup f = none) (hl : fsV.length < 1000)
    (k : ∀ q H4, H q = none → (∀ a o, a ≠ x → H a = some o → H4 a = some o) → H4 x = some (.ins C dx (fsV ++ [(f, .ref q)])) → H4 q = some (.dK []) → ST X.K B F0 (q :: F) σ H4 ρ → B q = none → De.nx σ H4)
    (hN : X.N[0]? = some me := by rfl) (hv : Vis X.env.scope me := by first | exact Or.inl rfl | exact Or.inr (Or.inl rfl) | exact Or.inr (Or.inr rfl)) (hd : (me == ("__debug__" : Str)) = false := by decide)
    (hcd : (me == ("__classdict__" : Str)) = false := by decide) (hs : swapsWith (.Dict [] [] p3) (some (.Attribute (.Name me p1) f p2)) pos.line X.env = pure false := by rfl) : wS X (.Assign [.Attribute (.Name me p1) f p2] (.Dict [] [] p3) pos) De σ H :=
  ws_of (ps_fld (pe_var hN hv hd hcd) pe_dnewK hs) (by
    intro q hq
    have e1 : Evl.Ex H (upd H q (.dK [])) := Evl.Ex.new hq
    have hb2 := S.hs.freshB hq
    refine ⟨.ref x, h0, x, C, dx, fsV, rfl, e1 _ _ hi, hc, hn, hl, ?_⟩
    have hqx : q ≠ x := fun z => by rw [z, hi] at hq; cases hq
    have ep : ∀ a o, a ≠ x → upd H q (.dK []) a = some o → upd (upd H q (.dK [])) x (.ins C dx (putF f (.ref q) fsV)) a = some o := fun a o ha e => by rw [upd_ne ha]; exact e
    exact k q _ hq (fun a o ha e => ep a o ha (e1 a o e)) (by rw [upd_same, putF_new hf]) (ep q _ hqx upd_same) ((S.more hq e1 upd_same).poke n (List.mem_cons_of_mem _ hx) hb ep (by rw [upd_same]; simp)) hb2)
/-- self.f[key] = value, a new key -/
theorem run_hput {j : Nat} (hr : Room j X.A) (he : EE X value ρ d) (hkE : EE X keyE ρ (.str k)) (S : ST X.K B F0 F σ H ρ) (n : noOwn ρ = true) (h0 : σ[0]? = some (some (.ref x))) (hi : H x = some (.ins C dx fsV)) (hc : Cls X.K C) (hn : NoAttr X.K C f) (hlf : fsV.lookup f = some (.ref q)) (hqF : q ∈ F) (hbq : B q = none)
    (hq : H q = some (.dK (kv.map kk))) (rk : RpKv X.K (hide F H) kv ds) (hk : ds.lookup k = none) (hl : ds.length < 1000)
    (K : ∀ H4 kv4, (∀ a o, a ≠ q → H a = some o → H4 a = some o) → H4 q = some (.dK (kv4.map kk)) → RpKv X.K (hide F H4) kv4 (ds ++ [(k, d)]) → ST X.K B F0 F σ H4 ρ → De.nx σ H4)
    (hN : X.N[0]? = some me := by rfl) (hv : Vis X.env.scope me := by first | exact Or.inl rfl | exact Or.inr (Or.inl rfl) | exact Or.inr (Or.inr rfl)) (hd : (me == ("__debug__" : Str)) = false := by decide)
    (hcd : (me == ("__classdict__" : Str)) = false := by decide) (hs : swapsWith value (some (.Subscript (.Attribute (.Name me p1) f p2) keyE p3)) pos.line X.env = pure false := by rfl) : wS X (.Assign [.Subscript (.Attribute (.Name me p1) f p2) keyE p3] value pos) De σ H :=
  ws_of (ps_dput (hu_of hr) (pe_fld (pe_var hN hv hd hcd) (base_of rfl)) pe_w pe_w hs) (by
    refine he.ev B F0 F σ H S _ fun v H1 e1 r1 => ?_
    refine ⟨.ref x, h0, x, C, dx, fsV, .ref q, rfl, e1 _ _ hi, hc, hn, hlf, ?_⟩
    refine hkE.ev B F0 F σ H1 (S.mono e1) _ fun y H2 e2 r2 => ?_
    obtain rfl := r2.str_inv
    have e12 := e1.trans e2
    have hkv : kv.lookup k = none := rk.lookN hk
    refine ⟨q, _, rfl, DPut.k (k := Sum.inr k) (e12 _ _ hq) (by rw [List.length_map, rk.len]; exact Nat.lt_trans hl (by decide)), ?_⟩
    rw [putK_new hkv]
    have ep : ∀ a o, a ≠ q → H2 a = some o → upd H2 q (.dK ((kv ++ [(k, v)]).map kk)) a = some o := fun a o ha e => by rw [upd_ne ha]; exact e
    have hh := hide_poke hqF ep
    have S2 := (S.mono e1).mono e2
    refine K _ (kv ++ [(k, v)]) (fun a o ha e => ep a o ha (e12 a o e)) upd_same ?_ (S2.poke n hqF hbq ep (by rw [upd_same]; simp))
    have all : ∀ {a : List (Str × V)} {b : List (Str × D)}, RpKv X.K (hide F (upd H2 q (.dK ((kv ++ [(k, v)]).map kk)))) a b → RpKv X.K (hide F (upd H2 q (.dK ((kv ++ [(k, v)]).map kk)))) (a ++ [(k, v)]) (b ++ [(k, d)]) := by
      intro a b r
      induction a generalizing b with
      | nil => cases r; exact .cons ((r1.mono (hide_mono e2)).mono hh) .nil
      | cons p a ih =>
        cases r with
        | cons r0 r => exact .cons r0 (ih r)
    exact all ((rk.mono (hide_mono e12)).mono hh))
/-- self.f.append(e) -/
theorem run_happ {apos : Pos} {e : Expr} (he : EE X e ρ d) (S : ST X.K B F0 F σ H ρ) (n : noOwn ρ = true) (h0 : σ[0]? = some (some (.ref x))) (hi : H x = some (.ins C dx fsV)) (hc : Cls X.K C) (hn : NoAttr X.K C f) (hlf : fsV.lookup f = some (.ref q)) (hqF : q ∈ F) (hbq : B q = none)
    (hq : H q = some (.lst xs)) (hl : xs.length < 1000)
    (K : ∀ H4 v, (∀ a o, a ≠ q → H a = some o → H4 a = some o) → H4 q = some (.lst (xs ++ [v])) → Rp X.K (hide F H4) v d → ST X.K B F0 F σ H4 ρ → De.nx σ H4)
    (hN : X.N[0]? = some me := by rfl) (hv : Vis X.env.scope me := by first | exact Or.inl rfl | exact Or.inr (Or.inl rfl) | exact Or.inr (Or.inr rfl)) (hd : (me == ("__debug__" : Str)) = false := by decide)
    (hcd : (me == ("__classdict__" : Str)) = false := by decide) (hline : (apos.endLine == cpos.line) = true := by rfl) (hs : notStar e = true := by rfl)
    (hsw : swapsWith (.Call (.Attribute (.Attribute (.Name me p1) f p2) "append" apos) [e] [] cpos) none pos.line X.env = pure false := by rfl) : wS X (.Expr (.Call (.Attribute (.Attribute (.Name me p1) f p2) "append" apos) [e] [] cpos) pos) De σ H :=
  ws_of (ps_expr (pe_bm PySem.F.plainAttrs_list PySem.F.slot_list_append PySem.F.type_list_append mt_append (pe_fld (pe_var hN hv hd hcd) (base_of rfl)) (pa_cons pe_w pa_nil (star_cons hs)) (base_of rfl) (few_one hs) hline (star_cons hs)) hsw) (by
    refine ⟨.ref x, h0, x, C, dx, fsV, .ref q, rfl, hi, hc, hn, hlf, .inl ⟨rfl, xs, Evl.sq_of hq⟩, ?_⟩
    refine he.ev B F0 F σ H S _ fun v H1 e1 r1 => ?_
    refine ⟨q, xs, v, rfl, rfl, e1 _ _ hq, Nat.lt_trans hl (by decide), ?_⟩
    have ep : ∀ a o, a ≠ q → H1 a = some o → upd H1 q (.lst (xs ++ [v])) a = some o := fun a o ha e => by rw [upd_ne ha]; exact e
    exact K _ v (fun a o ha e => ep a o ha (e1 a o e)) upd_same (r1.mono (hide_poke hqF ep)) ((S.mono e1).poke n hqF hbq ep (by rw [upd_same]; simp)))
end
end EH

set_option maxRecDepth 100000
set_option maxHeartbeats 4000000
/-! Hall.__init__ walked. -/
namespace EH
open PySem PySem.Spec PyProof.Rows L2 DL
def RHallInit (CP CN : Addr) (ds : List D) (fs fs1 : List (Str × D)) : Prop := ∃ rows, ds = [progD CP CN rows] ∧ Sz rows ∧ (nameL rows).Nodup ∧ fs = [] ∧ fs1 = hallF rows
structure HA (K : PySem.W.Frag) (C x dx o a w h : Addr) (F : List Addr) (H : Hp) (rows : List HRow) : Prop where
  ins : H x = some (.ins C dx [("order", .ref o), ("above", .ref a), ("own", .ref w), ("heads", .ref h)])
  ord : ∃ xs, H o = some (.lst xs) ∧ RpAll K (hide F H) xs ((nameL rows).map D.str)
  abo : ∃ kv : List (Str × V), H a = some (.dK (kv.map kk)) ∧ RpKv K (hide F H) kv (rows.map fun r => (r.name, encE r.elder))
  own : ∃ kv : List (Str × V), H w = some (.dK (kv.map kk)) ∧ RpKv K (hide F H) kv (rows.map fun r => (r.name, D.list (r.fields.map encP)))
  hds : ∃ kv : List (Str × V), H h = some (.dK (kv.map kk)) ∧ RpKv K (hide F H) kv (rows.map fun r => (r.name, D.list (r.heads.map encH)))
theorem HA.mono {K : PySem.W.Frag} {C x dx o a w h : Addr} {F : List Addr} {H H' : Hp} {rows : List HRow} (A : HA K C x dx o a w h F H rows) (e : Evl.Ex H H') : HA K C x dx o a w h F H' rows := by
  obtain ⟨i, ⟨xs, o1, o2⟩, ⟨k1, a1, a2⟩, ⟨k2, w1, w2⟩, ⟨k3, h1, h2⟩⟩ := A
  exact ⟨e _ _ i, ⟨xs, e _ _ o1, o2.mono (hide_mono e)⟩, ⟨k1, e _ _ a1, a2.mono (hide_mono e)⟩, ⟨k2, e _ _ w1, w2.mono (hide_mono e)⟩, ⟨k3, e _ _ h1, h2.mono (hide_mono e)⟩⟩
theorem look_no {α : Type} {f : HRow → α} {n : Str} : ∀ {rows : List HRow}, n ∉ nameL rows → (rows.map fun r => (r.name, f r)).lookup n = none
  | [], _ => rfl
  | r :: rows, h => by
    have h1 : ¬ n = r.name := fun z => h (by rw [z]; exact List.mem_cons_self)
    have h2 : n ∉ nameL rows := fun z => h (List.mem_cons_of_mem _ z)
    rw [List.map_cons, List.lookup_cons]
    have : (n == r.name) = false := by simpa using h1
    rw [this]
    exact look_no h2
theorem wss_cons {X : Cx} {st : Stmt} {rest : List Stmt} {De : Ends} {σ : L2.St} {H : Hp} (h : wS X st { De with nx := wSs X rest De } σ H) : wSs X (st :: rest) De σ H := fun pins s I => (pss_cons (ps_w (X := X)) pss_w).run pins s σ H De I h
theorem wss_one {X : Cx} {st : Stmt} {De : Ends} {σ : L2.St} {H : Hp} (h : wS X st De σ H) : wSs X [st] De σ H := fun pins s I => (pss_one (ps_w (X := X))).run pins s σ H De I h
section
variable {P : Program} {w : World} {K : PySem.W.Frag} {mg : Str → Option Value} {base : Heap}
abbrev mHallInit : Stmt := methOf sHall 0
abbrev nHallInit : List Str := ["self", "program", "name", "elder", "fields", "told", "word"]
theorem scHallInit : FnScope nHallInit ["self", "program"] (defScope mHallInit) := ⟨rfl, rfl, rfl, by decide +kernel, rfl, by decide +kernel, by decide +kernel⟩
theorem ok_hallInit {f C CP CN : Addr} {fd : FuncData} (F : Fun K "__init__" "Hall.__init__" mHallInit f fd) (T : Blt mg) (c : HC K C) (pc : PC K CP) : FnOk P w K mg base CX0 1 f fd ["self", "program"] (spM K C (RHallInit CP CN)) := by
  refine F.ok scHallInit (fun vs H Q E h => ?_) (fun cdv A outer s H vs Q E hr h => ?_)
  · obtain ⟨x, F, us, ds, fs, fs1, rfl, _, _, r, _, ⟨rows, rfl, _⟩, _⟩ := h
    rw [List.length_cons, r.len]
    rfl
  · obtain ⟨x, Fr, us, ds, fs, fs1, rfl, hx, dom, r, ⟨dx, gs, hH, rk⟩, ⟨rows, rfl, Z, nd, rfl, rfl⟩, q⟩ := h
    cases rk
    refine ⟨_, pss_w, ?_⟩
    have hb : hide [x] H x = none := by unfold hide; rw [if_pos (by simp)]
    have S0 : ST K (hide [x] H) (Fr.filter fun a => decide (a ≠ x)) Fr (L2.start nHallInit (.ref x :: us)) H [.no, .dat (progD CP CN rows), .no, .no, .no, .no, .no] := st_me dom hx r
    have hlen := Z.len
    have ne_of : ∀ {G : Hp} {p q : Addr} {u : HO}, G p = none → G q = some u → q ≠ p := fun {G p q u} h1 h2 z => by rw [z, h1] at h2; cases h2
    refine wss_cons (run_newL (en_lst ea_nil) S0 rfl hx hb rfl hH c.cls c.order rfl (by decide) fun o H1 n1 e1 x1 o1 S1 bo => ?_)
    have hox := ne_of n1 hH
    refine wss_cons (run_newD S1 rfl (List.mem_cons_of_mem _ hx) hb rfl x1 c.cls c.above (by rfl) (by show 1 < 1000; decide) fun a H2 n2 e2 x2 a2 S2 ba => ?_)
    have o2 := e2 o _ (Ne.symm hox) o1
    have hax := ne_of n2 x1
    have hao := ne_of n2 o1
    refine wss_cons (run_newD S2 rfl (List.mem_cons_of_mem _ (List.mem_cons_of_mem _ hx)) hb rfl x2 c.cls c.own (by rfl) (by show 2 < 1000; decide) fun w0 H3 n3 e3 x3 w3 S3 bw => ?_)
    have o3 := e3 o _ (Ne.symm hox) o2
    have a3 := e3 a _ (Ne.symm hax) a2
    have hwx := ne_of n3 x2
    have hwa := ne_of n3 a2
    refine wss_cons (run_newD S3 rfl (List.mem_cons_of_mem _ (List.mem_cons_of_mem _ (List.mem_cons_of_mem _ hx))) hb rfl x3 c.cls c.heads (by rfl) (by show 3 < 1000; decide) fun h0 H4 n4 e4 x4 h4 S4 bh => ?_)
    have o4 := e4 o _ (Ne.symm hox) o3
    have a4 := e4 a _ (Ne.symm hax) a3
    have w4 := e4 w0 _ (Ne.symm hwx) w3
    have hha := ne_of n4 a3
    have hhw := ne_of n4 w3
    have HA0 : HA K C x dx o a w0 h0 (h0 :: w0 :: a :: o :: Fr) H4 [] := ⟨x4, ⟨[], o4, .nil⟩, ⟨[], a4, .nil⟩, ⟨[], w4, .nil⟩, ⟨[], h4, .nil⟩⟩
    generalize hF : h0 :: w0 :: a :: o :: Fr = F4 at S4 HA0
    have mx : x ∈ F4 := by rw [← hF]; simp [hx]
    have mo : o ∈ F4 := by rw [← hF]; simp
    have ma : a ∈ F4 := by rw [← hF]; simp
    have mw : w0 ∈ F4 := by rw [← hF]; simp
    have mh : h0 ∈ F4 := by rw [← hF]; simp
    refine wss_one (ws_of (ps_for PassesOwn.never (by rfl) pi_w (pg4 (i := 2) (j := 3) (m := 4) (n := 5) scHallInit.nd) pss_w (by intro _; rfl)) ?_)
    refine (ie_list (ee_fld (ee_var 1) pc.cls pc.houses (d := .list (rows.map (encB2 CN))) (by rfl))).ev _ _ F4 _ H4 S4 _ fun J H5 e5 jd => ?_
    refine ⟨fun i m σ' H' => m = rows.length - i ∧ i ≤ rows.length ∧ ST K (hide [x] H) (Fr.filter fun a => decide (a ≠ x)) F4 σ' H' [.no, .dat (progD CP CN rows), .no, .no, .no, .no, .no] ∧ Evl.Ex (hide F4 H5) (hide F4 H') ∧ σ'[0]? = some (some (.ref x)) ∧ HA K C x dx o a w0 h0 F4 H' (rows.take i),
      ⟨rows.length, by simp, Nat.zero_le _, S4.mono e5, Evl.Ex.refl _, rfl, by rw [List.take_zero]; exact HA0.mono e5⟩, ?_⟩
    rintro i m σ' H' ⟨rfl, hi, S', eG, s0, HAi⟩
    obtain ⟨go, stop, _⟩ := jd H' (eG.trans hide_sub)
    rw [List.length_map] at go stop
    by_cases hlt : i < rows.length
    · refine .inr ⟨go i hlt, fun σ2 H2 => ST K (hide [x] H) (Fr.filter fun a => decide (a ≠ x)) F4 σ2 H2 [.no, .dat (progD CP CN rows), .no, .no, .no, .no, .no] ∧ Evl.Ex (hide F4 H5) (hide F4 H2) ∧ σ2[0]? = some (some (.ref x)) ∧ HA K C x dx o a w0 h0 F4 H2 (rows.take (i + 1)),
        fun σ2 H2 ⟨k1, k2, k3, k4⟩ => ⟨rows.length - (i + 1), by omega, rfl, hlt, k1, k2, k3, k4⟩, fun v H'' y => ?_⟩
      have hd' : (rows.map (encB2 CN))[i]? = some (encB2 CN rows[i]) := by rw [List.getElem?_map, List.getElem?_eq_getElem hlt]; rfl
      obtain ⟨ey, Sy, ry⟩ := jd.yield S' eG hd' y
      have HAy := HAi.mono ey
      have eGy : Evl.Ex (hide F4 H5) (hide F4 H'') := eG.trans (hide_mono ey)
      have et : rows.take (i + 1) = rows.take i ++ [rows[i]] := List.take_succ_eq_append_getElem hlt
      have hmem : rows[i] ∈ rows := List.getElem_mem hlt
      have hnew : rows[i].name ∉ nameL (rows.take i) := fun z => by
        have h1 : nameL rows = nameL (rows.take i) ++ nameL (rows.drop i) := by unfold nameL; rw [← List.map_append, List.take_append_drop]
        rw [h1] at nd
        have h2 : rows[i].name ∈ nameL (rows.drop i) := by
          unfold nameL
          rw [List.drop_eq_getElem_cons hlt]
          exact List.mem_cons_self
        exact (List.nodup_append.mp nd).2.2 _ z _ h2 rfl
      have hth : (rows.take i).length ≤ 12 := by rw [List.length_take]; omega
      generalize hg : rows[i] = r0 at ry et hmem hnew
      refine tg4 _ _ F4 σ' H'' v Sy ry _ fun σ3 T3 wk => ?_
      have s3 : σ3[0]? = some (some (.ref x)) := by rw [wk.2 0 (by decide)]; exact s0
      generalize rows.take i = pre at HAy hnew hth et
      obtain ⟨ix, ⟨xs, oo, ro⟩, ⟨ka, aa, ra⟩, ⟨kw, ww, rw_⟩, ⟨kh, hh, rh⟩⟩ := HAy
      have nox : o ≠ x := fun z => by rw [z, ix] at oo; cases oo
      have noa : o ≠ a := fun z => by rw [z, aa] at oo; cases oo
      have now : o ≠ w0 := fun z => by rw [z, ww] at oo; cases oo
      have noh : o ≠ h0 := fun z => by rw [z, hh] at oo; cases oo
      have nax : a ≠ x := fun z => by rw [z, ix] at aa; cases aa
      have nwx : w0 ≠ x := fun z => by rw [z, ix] at ww; cases ww
      have nhx : h0 ≠ x := fun z => by rw [z, ix] at hh; cases hh
      have hh8 := Z.hl r0 hmem
      refine wss_cons (run_happ (ee_var 2) T3 rfl s3 ix c.cls c.order (by rfl) mo bo oo (by rw [ro.len, List.length_map]; unfold nameL; rw [List.length_map]; omega) fun H6 v6 e6 o6 r6 S6 => ?_)
      have g6 := hide_poke mo e6
      refine wss_cons (run_hput hr (ee_var 3) (ee_var 2) S6 rfl s3 (e6 x _ (Ne.symm nox) ix) c.cls c.above (by rfl) ma ba (e6 a _ (Ne.symm noa) aa) (ra.mono g6) (look_no hnew) (by rw [List.length_map]; omega) fun H7 k7 e7 a7 r7 S7 => ?_)
      have g7 := hide_poke ma e7
      refine wss_cons (run_hput hr (EN.ee (en_listT T.list (ee_var 4))) (ee_var 2) S7 rfl s3 (e7 x _ (Ne.symm nax) (e6 x _ (Ne.symm nox) ix)) c.cls c.own (by rfl) mw bw (e7 w0 _ (fun z => hwa z.symm) (e6 w0 _ (Ne.symm now) ww)) (((rw_.mono g6)).mono g7) (look_no hnew) (by rw [List.length_map]; omega) fun H8 k8 e8 w8 r8 S8 => ?_)
      have g8 := hide_poke mw e8
      refine wss_one (run_hput hr (EN.ee (en_lc1 (as := r0.heads) (e := encH) (encT2 CN) 6 scHallInit.nd (blkOk_by (N := nHallInit) (sc := defScope mHallInit) (by decide +kernel)) (ie_list (ee_var 5)) (by omega)
        (fun h hh s H0 C cl fp => ee_tup (ea_cons (ee_ixT (ee_var 6) ee_int) (ea_cons (ee_ixT (ee_var 6) ee_int) (ea_cons (ee_ixT (ee_var 6) ee_int) ea_nil)))))) (ee_var 2) S8 rfl s3 (e8 x _ (Ne.symm nwx) (e7 x _ (Ne.symm nax) (e6 x _ (Ne.symm nox) ix))) c.cls c.heads (by rfl) mh bh
        (e8 h0 _ (fun z => hhw z.symm) (e7 h0 _ (fun z => hha z.symm) (e6 h0 _ (Ne.symm noh) hh))) (((rh.mono g6).mono g7).mono g8) (look_no hnew) (by rw [List.length_map]; omega) fun H9 k9 e9 h9 r9 S9 => ?_)
      have g9 := hide_poke mh e9
      refine ⟨(((S9.drop (i := 2)).drop (i := 3)).drop (i := 4)).drop (i := 5), (((eGy.trans g6).trans g7).trans g8).trans g9, s3, ?_⟩
      rw [et]
      refine ⟨e9 x _ (Ne.symm nhx) (e8 x _ (Ne.symm nwx) (e7 x _ (Ne.symm nax) (e6 x _ (Ne.symm nox) ix))), ⟨xs ++ [v6], e9 o _ noh (e8 o _ now (e7 o _ noa o6)), ?_⟩, ⟨k7, e9 a _ hha (e8 a _ hwa a7), ?_⟩, ⟨k8, e9 w0 _ hhw w8, ?_⟩, ⟨k9, h9, ?_⟩⟩
      · unfold nameL
        rw [List.map_append, List.map_append]
        exact ((((ro.mono g6).snoc r6).mono g7).mono g8).mono g9
      · rw [List.map_append]
        exact ((r7.mono g8).mono g9)
      · rw [List.map_append]
        exact r8.mono g9
      · rw [List.map_append]
        exact r9
    · have ei : i = rows.length := by omega
      subst ei
      refine .inl ⟨stop, ?_⟩
      rw [List.take_length] at HAi
      obtain ⟨ix, ⟨xs, oo, ro⟩, ⟨ka, aa, ra⟩, ⟨kw, ww, rw_⟩, ⟨kh, hh, rh⟩⟩ := HAi
      have pre : ∀ b u, b ≠ x → H b = some u → H' b = some u := fun b u hb e => S'.hs.ex b u (hide_some (by simpa using hb) e)
      have sub : ∀ b ∈ Fr, b ∈ F4 := fun b hb => by rw [← hF]; simp [hb]
      have anti : Evl.Ex (hide F4 H') (hide Fr H') := hide_anti sub
      have out : ∀ {G : Hp} {p : Addr}, (∀ b u, b ≠ x → H b = some u → G b = some u) → G p = none → p ≠ x → p ∉ Fr := fun {G p} e n ne z => by
        cases q1 : H p with
        | none => exact dom p z q1
        | some u => rw [e p u ne q1] at n; cases n
      have fo : o ∉ Fr := fun z => dom o z n1
      have fa : a ∉ Fr := out e1 n2 (Ne.symm hax)
      have e12 : ∀ b u, b ≠ x → H b = some u → H2 b = some u := fun b u hb e => e2 b u hb (e1 b u hb e)
      have fw : w0 ∉ Fr := out e12 n3 (Ne.symm hwx)
      have fh : h0 ∉ Fr := out (fun b u hb e => e3 b u hb (e12 b u hb e)) n4 (Ne.symm (ne_of n4 x3))
      exact q H' pre ⟨dx, _, ix, .cons (.list (hide_some fo oo) (ro.mono anti)) (.cons (.dic (hide_some fa aa) (ra.mono anti)) (.cons (.dic (hide_some fw ww) (rw_.mono anti)) (.cons (.dic (hide_some fh hh) (rh.mono anti)) .nil)))⟩
end
end EH

set_option maxRecDepth 100000
set_option maxHeartbeats 4000000
/-! Plain laws: the names differ, and are plain. -/
namespace EH
open PySem PySem.Spec PyProof.Rows L2 DL
def cod (z : Int) : Nat := 97 + (z % 26).toNat
theorem cod_rng (z : Int) : 97 ≤ cod z ∧ cod z < 123 := by
  have := mod_pos z (b := 26) (by decide)
  unfold cod
  omega
theorem cod_inj {y z : Int} (h : cod y = cod z) : y % 26 = z % 26 := by
  have := mod_pos y (b := 26) (by decide)
  have := mod_pos z (b := 26) (by decide)
  unfold cod at h
  omega
theorem codes_lt (z : Int) : codes (lt z) = [cod z] := rfl
theorem codes_lts (zs : List Int) : codes (Txt.join "" (zs.map lt)) = zs.map cod := by
  rw [codes_join, List.map_map]
  induction zs with
  | nil => rfl
  | cons z zs ih => rw [List.map_cons, List.flatten_cons, ih]; rfl
def zs0 (r : Int) : List Int := (List.range 8).map fun (j : Nat) => r / 64 + 5 * (j : Int)
def zs3 (r k : Int) : List Int := (List.range 8).map fun (j : Nat) => r + k / 8 + 3 * (j : Int)
theorem base0_eq (r : Int) : base0 r = (zs0 r).map lt := by unfold base0 zs0; rw [List.map_map]; rfl
theorem base3_eq (r k : Int) : base3 r k = (zs3 r k).map lt := by unfold base3 zs3; rw [List.map_map]; rfl
theorem core0_codes (r k : Int) : codes (core0 r k) = (((zs0 r).set (at0 r) (r + k)).take (1 + r % 8).toNat).map cod := by
  unfold core0
  rw [base0_eq, ← List.map_set, ← List.map_take, codes_lts]
theorem core1_codes (r k : Int) : codes (core1 r k) = cod (r + k / 8) :: ((zs0 r).take (k % 8).toNat).map cod := by
  unfold core1
  rw [base0_eq, ← List.map_take, codes_app, codes_lts]
  rfl
theorem core3_codes (r k : Int) : codes (core3 r k) = ((zs3 r k).drop (k % 8).toNat ++ (zs3 r k).take (k % 8).toNat).map cod := by
  unfold core3
  rw [base3_eq, ← List.map_take, ← List.map_drop, ← List.map_append, codes_lts]
theorem core_letters (c k : Int) : ∀ x ∈ codes (core c k), 97 ≤ x ∧ x < 123 := by
  have all : ∀ zs : List Int, ∀ x ∈ zs.map cod, 97 ≤ x ∧ x < 123 := fun zs x hx => by
    obtain ⟨z, _, rfl⟩ := List.mem_map.mp hx
    exact cod_rng z
  unfold core
  split
  · rw [core0_codes]; exact all _
  · split
    · rw [core1_codes]
      intro x hx
      rcases List.mem_cons.mp hx with rfl | hx
      · exact cod_rng _
      · exact all _ x hx
    · rw [core3_codes]; exact all _
theorem core_inj {c k k' : Int} (hc : ¬ c % 4 = 2) (hk : 0 ≤ k ∧ k < 12) (hk' : 0 ≤ k' ∧ k' < 12) (h : core c k = core c k') : k = k' := by
  have h := congrArg codes h
  unfold core at h
  generalize c / 4 = r at h
  by_cases h0 : c % 4 = 0
  · rw [if_pos h0, if_pos h0, core0_codes, core0_codes] at h
    have h := congrArg (fun l => l[at0 r]?) h
    obtain ⟨a1, a2, a3⟩ := at0_lt r
    have get : ∀ k : Int, ((((zs0 r).set (at0 r) (r + k)).take (1 + r % 8).toNat).map cod)[at0 r]? = some (cod (r + k)) := fun k => by
      rw [List.getElem?_map, List.getElem?_take_of_lt a2, List.getElem?_set_self (by unfold zs0; rw [List.length_map, List.length_range]; omega)]
      rfl
    simp only [get] at h
    have := cod_inj (Option.some.inj h)
    omega
  · rw [if_neg h0, if_neg h0] at h
    by_cases h1 : c % 4 = 1
    · rw [if_pos h1, if_pos h1, core1_codes, core1_codes] at h
      injection h with h2 h3
      have h4 := cod_inj h2
      have h5 := congrArg List.length h3
      have hz : (zs0 r).length = 8 := by unfold zs0; rw [List.length_map, List.length_range]
      have m1 := mod_pos k (b := 8) (by decide)
      have m2 := mod_pos k' (b := 8) (by decide)
      rw [List.length_map, List.length_map, List.length_take, List.length_take, hz] at h5
      omega
    · rw [if_neg h1, if_neg h1, core3_codes, core3_codes] at h
      have h := congrArg (fun l => l[0]?) h
      have get : ∀ k : Int, (((zs3 r k).drop (k % 8).toNat ++ (zs3 r k).take (k % 8).toNat).map cod)[0]? = some (cod (r + k / 8 + 3 * (k % 8))) := fun k => by
        have m1 := mod_pos k (b := 8) (by decide)
        have hz : (zs3 r k).length = 8 := by unfold zs3; rw [List.length_map, List.length_range]
        have hm : (k % 8).toNat < 8 := by omega
        rw [List.getElem?_map, List.getElem?_append_left (by rw [List.length_drop, hz]; omega), List.getElem?_drop]
        have : (zs3 r k)[(k % 8).toNat + 0]? = some (r + k / 8 + 3 * (k % 8)) := by
          unfold zs3
          rw [Nat.add_zero, List.getElem?_map, List.getElem?_range hm]
          show some (r + k / 8 + 3 * (((k % 8).toNat : Nat) : Int)) = _
          rw [Int.toNat_of_nonneg m1.1]
        rw [this]
        rfl
      simp only [get] at h
      have := cod_inj (Option.some.inj h)
      omega
/-! the told words -/
theorem told_facts : ∀ s ∈ toldL, (codes (cutS s none (some 1))).length = 1 ∧ ∀ x ∈ codes (cutS s none (some 1)), x < 128 := by decide +kernel
theorem told_nodup : ∀ i, i < 19 → ∀ j, j < 19 → codes (toldL.getD i "") = codes (toldL.getD j "") → i = j := by decide +kernel
theorem told_low : ∀ i, i < 19 → ∀ x ∈ codes (toldL.getD i ""), x < 128 := by decide +kernel
theorem num_facts : ∀ n : Nat, n < 26 → codes (Str.ofString (toString (n : Int))) ≠ [] ∧ ∀ x ∈ codes (Str.ofString (toString (n : Int))), x < 58 := by decide +kernel
theorem num_inj : ∀ n : Nat, n < 12 → ∀ m : Nat, m < 12 → codes (Str.ofString (toString (n : Int))) = codes (Str.ofString (toString (m : Int))) → n = m := by decide +kernel
theorem digS_codes (z : Int) : ∃ x, codes (digS z) = [x] ∧ x < 128 := by
  have hm := mod_pos z (b := 10) (by decide)
  refine ⟨_, rfl, ?_⟩
  have all : ∀ n : Nat, n < 10 → digL.getD n 0 < 128 := by decide
  exact all _ (by omega)
theorem nameM_inj {c k k' : Int} (hk : 0 ≤ k ∧ k < 12) (hk' : 0 ≤ k' ∧ k' < 12) (h : nameM c k = nameM c k') : k = k' := by
  unfold nameM at h
  by_cases h2 : c % 4 = 2
  · rw [if_pos h2, if_pos h2] at h
    have d1 : k / 19 = 0 := by omega
    have d2 : k' / 19 = 0 := by omega
    rw [d1, d2] at h
    have h := congrArg codes h
    rw [codes_app, codes_app] at h
    have h := List.append_cancel_right h
    have m1 := mod_pos (c / 4 + k) (b := 19) (by decide)
    have m2 := mod_pos (c / 4 + k') (b := 19) (by decide)
    have := told_nodup _ (by omega) _ (by omega) h
    omega
  · rw [if_neg h2, if_neg h2] at h
    have nat : ∀ {z : Int}, 0 ≤ z ∧ z < 12 → ∃ n : Nat, z = (n : Int) ∧ n < 12 := fun {z} hz => ⟨z.toNat, by omega, by omega⟩
    obtain ⟨n, rfl, hn⟩ := nat hk
    obtain ⟨m, rfl, hm⟩ := nat hk'
    have mixed : ∀ (a b : Nat), a < 12 → core c (a : Int) ∈ toldL → cutS (core c (a : Int)) none (some 1) ++ Str.ofString (toString (a : Int)) = core c (b : Int) → False := fun a b ha hi e => by
      have e := congrArg codes e
      rw [codes_app] at e
      obtain ⟨f1, f2⟩ := num_facts a (by omega)
      cases q : codes (Str.ofString (toString (a : Int))) with
      | nil => exact f1 q
      | cons x xs =>
        have h1 : x ∈ codes (core c (b : Int)) := by rw [← e, q]; simp
        have h3 := core_letters c b x h1
        have h4 := f2 x (by rw [q]; simp)
        omega
    by_cases i1 : core c (n : Int) ∈ toldL
    · rw [if_pos i1] at h
      by_cases i2 : core c (m : Int) ∈ toldL
      · rw [if_pos i2] at h
        have h := congrArg codes h
        rw [codes_app, codes_app] at h
        have l1 := (told_facts _ i1).1
        have l2 := (told_facts _ i2).1
        have h := (List.append_inj h (by rw [l1, l2])).2
        have := num_inj n hn m hm h
        omega
      · rw [if_neg i2] at h
        exact (mixed n m hn i1 h).elim
    · rw [if_neg i1] at h
      by_cases i2 : core c (m : Int) ∈ toldL
      · rw [if_pos i2] at h
        exact (mixed m n hm i2 h.symm).elim
      · rw [if_neg i2] at h
        exact core_inj h2 hk hk' h
/-! plain texts -/
def Low (s : Str) : Prop := ∀ x ∈ codes s, x < 128
theorem Low.ok {s : Str} (h : Low s) : SOk s := by
  unfold SOk PyData.strOk
  rw [Array.all_eq_true]
  intro i hi
  have h1 : s.cps[i] ∈ codes s := Array.getElem_mem_toList hi
  have := h _ h1
  simp
  omega
theorem low_app {a b : Str} (ha : Low a) (hb : Low b) : Low (a ++ b) := fun x hx => by
  rw [codes_app] at hx
  exact (List.mem_append.mp hx).elim (ha x) (hb x)
theorem low_name {c k : Int} (hk : 0 ≤ k ∧ k < 26) : Low (nameM c k) := by
  unfold nameM
  split
  · have m1 := mod_pos (c / 4 + k) (b := 19) (by decide)
    refine low_app (told_low _ (by omega)) fun x hx => ?_
    obtain ⟨y, e, hy⟩ := digS_codes (c / 4 + k / 19)
    rw [e] at hx
    simp at hx
    omega
  · split
    · rename_i hi
      refine low_app (told_facts _ hi).2 fun x hx => ?_
      obtain ⟨n, rfl, hn⟩ : ∃ n : Nat, k = (n : Int) ∧ n < 26 := ⟨k.toNat, by omega, by omega⟩
      have := (num_facts n hn).2 x hx
      omega
    · intro x hx
      have := core_letters c k x hx
      omega
end EH

set_option maxRecDepth 100000
set_option maxHeartbeats 4000000
/-! Plain laws: the rows drawn are a hall's rows. -/
namespace EH
open PySem PySem.Spec PyProof.Rows L2 DL
theorem nd_inj {α : Type} {l : List α} (nd : l.Nodup) {i j : Nat} {hi : i < l.length} {hj : j < l.length} (e : l[i] = l[j]) : i = j := by
  have h := List.pairwise_iff_getElem.mp nd
  rcases Nat.lt_trichotomy i j with z | z | z
  · exact absurd e (h i j hi hj z)
  · exact z
  · exact absurd e.symm (h j i hj hi z)
theorem low_nil : Low "" := fun x hx => by
  have : codes ("" : Str) = [] := by decide +kernel
  rw [this] at hx
  cases hx
theorem low_getD {l : List Str} (h : ∀ s ∈ l, Low s) (i : Nat) : Low (l.getD i "") := by
  by_cases hi : i < l.length
  · exact h _ (getD_mem hi)
  · rw [List.getD_eq_getElem?_getD, List.getElem?_eq_none (by omega)]
    exact low_nil
theorem low_kind {num : Int} {names : List Str} (h : ∀ s ∈ names, Low s) : Low (kindM num names) := by
  unfold kindM
  refine low_getD (fun s hs => ?_) _
  have all : ∀ s ∈ kindL, Low s := by unfold Low; decide +kernel
  rcases List.mem_append.mp hs with z | z
  · rcases List.mem_append.mp z with z | z
    · exact all s z
    · exact h s z
  · exact h s z
section
variable (sc : List Int)
theorem low_names : ∀ s ∈ namesM sc, Low s := fun s hs => by
  obtain ⟨k, hk, rfl⟩ := List.mem_map.mp hs
  have hk := List.mem_range.mp hk
  have := many_le sc
  exact low_name (by omega)
theorem low_pool (w : Nat) : ∀ s ∈ poolM sc w, Low s := fun s hs => by
  obtain ⟨k, hk, rfl⟩ := List.mem_map.mp hs
  have hk := List.mem_range.mp hk
  exact low_name (by omega)
def LowP (p : Str × Str) : Prop := Low p.1 ∧ Low p.2
theorem low_fields (j : Nat) (tk : List Str) : ∀ p ∈ fieldsM sc j tk (poolM sc 0) (namesM sc), LowP p := fun p hp => by
  obtain ⟨k, _, rfl⟩ := List.mem_map.mp hp
  exact ⟨low_getD (low_pool sc 0) _, low_kind (low_names sc)⟩
theorem low_params (z : Int) (w : Nat) : ∀ p ∈ paramsM z (poolM sc w) (namesM sc), LowP p := fun p hp => by
  obtain ⟨k, _, rfl⟩ := List.mem_map.mp hp
  exact ⟨low_getD (low_pool sc w) _, low_kind (low_names sc)⟩
theorem params_len (z : Int) (pool names : List Str) : (paramsM z pool names).length ≤ 5 := by
  unfold paramsM
  rw [List.length_map, List.length_range]
  have := mod_pos z (b := 5) (by decide)
  omega
theorem fold_fields (l : List Nat) : ∀ fs ∈ (foldF sc l).1, fs.length ≤ 5 ∧ ∀ p ∈ fs, LowP p := by
  have all : ∀ (l : List Nat) (st : FT), (∀ fs ∈ st.1, fs.length ≤ 5 ∧ ∀ p ∈ fs, LowP p) → ∀ fs ∈ (l.foldl (stepF sc (elds sc) (poolM sc 0) (namesM sc)) st).1, fs.length ≤ 5 ∧ ∀ p ∈ fs, LowP p := by
    intro l
    induction l with
    | nil => exact fun st h => h
    | cons j l ih =>
      intro st h
      refine ih _ fun fs hf => ?_
      rcases List.mem_or_eq_of_mem_set hf with q | q
      · exact h fs q
      · rw [q]
        exact ⟨fieldsM_len _ _ _ _ _, low_fields sc _ _⟩
  refine all l _ fun fs hf => ?_
  rw [(List.mem_replicate.mp hf).2]
  exact ⟨Nat.zero_le _, fun p hp => nomatch hp⟩
theorem row_fields (j : Nat) : (rowAt sc j).fields.length ≤ 5 ∧ ∀ p ∈ (rowAt sc j).fields, LowP p := by
  show ((foldF sc (orderM sc (manyM sc))).1.getD j []).length ≤ 5 ∧ ∀ p ∈ (foldF sc (orderM sc (manyM sc))).1.getD j [], LowP p
  by_cases hj : j < (foldF sc (orderM sc (manyM sc))).1.length
  · exact fold_fields sc _ _ (getD_mem hj)
  · rw [List.getD_eq_getElem?_getD, List.getElem?_eq_none (by omega)]
    exact ⟨Nat.zero_le _, fun p hp => nomatch hp⟩
theorem row_heads (j : Nat) : (rowAt sc j).heads.length ≤ 8 ∧ ∀ h ∈ (rowAt sc j).heads, Low h.word ∧ Low h.kind ∧ (∀ p ∈ h.params, LowP p) ∧ h.params.length ≤ 5 := by
  show (headsM sc j (poolM sc 1) (poolM sc 2) (namesM sc)).length ≤ 8 ∧ ∀ h ∈ headsM sc j (poolM sc 1) (poolM sc 2) (namesM sc), _
  unfold headsM
  refine ⟨by rw [List.length_map, List.length_range]; exact (headsN_at _).2, fun h hh => ?_⟩
  obtain ⟨k, _, rfl⟩ := List.mem_map.mp hh
  exact ⟨low_getD (low_pool sc 1) _, low_kind (low_names sc), low_params sc _ 2, params_len _ _ _⟩
theorem rows_mem {r : HRow} (h : r ∈ rowsM sc) : ∃ j, j < manyM sc ∧ r = rowAt sc j := by
  obtain ⟨j, hj, rfl⟩ := List.mem_map.mp h
  exact ⟨j, List.mem_range.mp hj, rfl⟩
theorem nameL_rows : nameL (rowsM sc) = namesM sc := by
  unfold nameL rowsM
  rw [List.map_map]
  apply List.ext_getElem?
  intro i
  by_cases hi : i < manyM sc
  · rw [List.getElem?_map, List.getElem?_range hi]
    show some ((namesM sc).getD i "") = _
    rw [List.getD_eq_getElem?_getD, List.getElem?_eq_getElem (by rw [names_len]; exact hi)]
    rfl
  · rw [List.getElem?_eq_none (by rw [List.length_map, List.length_range]; omega), List.getElem?_eq_none (by rw [names_len]; omega)]
theorem names_nodup : (namesM sc).Nodup := by
  have hm := many_le sc
  unfold namesM
  refine List.pairwise_map.mpr ?_
  refine List.Pairwise.imp_of_mem (R := (· ≠ ·)) (fun {a b} ha hb hne e => hne ?_) List.nodup_range
  have ha := List.mem_range.mp ha
  have hb := List.mem_range.mp hb
  have := nameM_inj (by omega) (by omega) e
  omega
theorem order_nodup (n : Nat) : (orderM sc n).Nodup := (orderM_perm sc n).nodup_iff.mpr List.nodup_range
theorem getD_inj {l : List Nat} (nd : l.Nodup) {i j : Nat} (hi : i < l.length) (hj : j < l.length) (e : l.getD i 0 = l.getD j 0) : i = j := by
  rw [List.getD_eq_getElem?_getD, List.getElem?_eq_getElem hi, List.getD_eq_getElem?_getD, List.getElem?_eq_getElem hj] at e
  have e : l[i] = l[j] := e
  exact nd_inj nd e
theorem eldersM_at {ord : List Nat} (nd : ord.Nodup) (hlt : ∀ j ∈ ord, j < ord.length) : ∀ P, P < ord.length → ∀ p, p < ord.length → (eldersM sc ord P).getD (ord.getD p 0) none = if 1 ≤ p ∧ p ≤ P then elderAt sc ord p else none
  | 0, _, p, hp => by
    rw [if_neg (by omega)]
    unfold eldersM
    rw [List.getD_eq_getElem?_getD, List.getElem?_replicate]
    split <;> rfl
  | P + 1, hP, p, hp => by
    have ih := eldersM_at nd hlt P (by omega) p hp
    rw [eldersM]
    split
    · rename_i he
      rw [ih]
      by_cases h : p = P + 1
      · subst h
        rw [if_neg (by omega), if_pos (by omega), he]
      · by_cases h2 : 1 ≤ p ∧ p ≤ P
        · rw [if_pos h2, if_pos (by omega)]
        · rw [if_neg h2, if_neg (by omega)]
    · rename_i e he
      by_cases h : p = P + 1
      · subst h
        rw [if_pos (by omega), he, List.getD_eq_getElem?_getD, List.getElem?_set_self (by rw [eldersM_len]; exact hlt _ (getD_mem hp))]
        rfl
      · have hne : ord.getD (P + 1) 0 ≠ ord.getD p 0 := fun z => h (getD_inj nd hp hP z.symm)
        rw [List.getD_eq_getElem?_getD, List.getElem?_set_ne hne, ← List.getD_eq_getElem?_getD, ih]
        by_cases h2 : 1 ≤ p ∧ p ≤ P
        · rw [if_pos h2, if_pos (by omega)]
        · rw [if_neg h2, if_neg (by omega)]
def ordA (p : Nat) : Nat := (orderM sc (manyM sc)).getD p 0
theorem elds_at {p : Nat} (hp : p < manyM sc) {e : Nat} (h : (elds sc).getD (ordA sc p) none = some e) : ∃ q, q < p ∧ e = ordA sc q := by
  have hm := many_le sc
  have hl := order_len sc (manyM sc)
  unfold elds ordA at h
  rw [eldersM_at sc (order_nodup sc _) (fun j hj => by rw [hl]; exact order_lt sc _ j hj) _ (by omega) p (by omega)] at h
  split at h
  · rename_i hp2
    obtain ⟨q, hq, e1⟩ := elderAt_mem (by omega) (by omega) h
    exact ⟨q, hq, e1⟩
  · cases h
theorem ord_has {j : Nat} (hj : j < manyM sc) : ∃ p, p < manyM sc ∧ ordA sc p = j := by
  have hm : j ∈ orderM sc (manyM sc) := (orderM_perm sc _).mem_iff.mpr (List.mem_range.mpr hj)
  obtain ⟨p, hp⟩ := List.mem_iff_getElem?.mp hm
  have hl := (List.getElem?_eq_some_iff.mp hp).1
  rw [order_len] at hl
  refine ⟨p, hl, ?_⟩
  unfold ordA
  rw [List.getD_eq_getElem?_getD, hp]
  rfl
/-! the chains -/
def elI : Nat → Nat → List Nat
  | 0, _ => []
  | f + 1, j => match (elds sc).getD j none with
    | none => []
    | some e => e :: elI f e
theorem elI_len : ∀ (f j : Nat), (elI sc f j).length ≤ f
  | 0, _ => Nat.le_refl _
  | f + 1, j => by
    unfold elI
    split
    · exact Nat.zero_le _
    · rw [List.length_cons]
      have := elI_len f (by assumption)
      omega
theorem elI_stable : ∀ (p : Nat), p < manyM sc → ∀ f, p ≤ f → elI sc f (ordA sc p) = elI sc (f + 1) (ordA sc p) := by
  intro p
  induction p using Nat.strongRecOn with
  | _ p ih =>
    intro hp f hf
    cases f with
    | zero =>
      have : p = 0 := by omega
      subst this
      unfold elI
      cases h : (elds sc).getD (ordA sc 0) none with
      | none => rfl
      | some e =>
        obtain ⟨q, hq, _⟩ := elds_at sc hp h
        omega
    | succ f =>
      rw [elI, elI]
      cases h : (elds sc).getD (ordA sc p) none with
      | none => rfl
      | some e =>
        obtain ⟨q, hq, rfl⟩ := elds_at sc hp h
        show _ :: _ = _ :: _
        rw [ih q hq (by omega) f (by omega)]
def elM (s : Str) : List Str := match ixOf (namesM sc) s with
  | some j => (elI sc 12 j).map fun e => (namesM sc).getD e ""
  | none => []
theorem ix_name {j : Nat} (hj : j < manyM sc) : ixOf (namesM sc) ((namesM sc).getD j "") = some j := by
  obtain ⟨k, hk⟩ := ixOf_mem (getD_mem (d := ("" : Str)) (by rw [names_len]; exact hj))
  obtain ⟨h1, _⟩ := ixOf_some hk
  obtain ⟨hkl, h1⟩ := List.getElem?_eq_some_iff.mp h1
  rw [List.getD_eq_getElem?_getD, List.getElem?_eq_getElem (by rw [names_len]; exact hj)] at h1
  have : k = j := nd_inj (names_nodup sc) h1
  rw [hk, this]
theorem elM_row {j : Nat} (hj : j < manyM sc) : elM sc (rowAt sc j).name = elNext (rowAt sc j).elder (elM sc) := by
  have hm := many_le sc
  show elM sc ((namesM sc).getD j "") = elNext (((elds sc).getD j none).map fun e => (namesM sc).getD e "") (elM sc)
  obtain ⟨p, hp, rfl⟩ := ord_has sc hj
  have e1 : elM sc ((namesM sc).getD (ordA sc p) "") = (elI sc 12 (ordA sc p)).map fun e => (namesM sc).getD e "" := by
    unfold elM
    rw [ix_name sc hj]
  rw [e1, elI]
  cases h : (elds sc).getD (ordA sc p) none with
  | none => rfl
  | some e =>
    obtain ⟨q, hq, rfl⟩ := elds_at sc hp h
    have hj2 := elds_val h
    have e2 : elM sc ((namesM sc).getD (ordA sc q) "") = (elI sc 12 (ordA sc q)).map fun e => (namesM sc).getD e "" := by
      unfold elM
      rw [ix_name sc hj2]
    show (ordA sc q :: elI sc 11 (ordA sc q)).map _ = (namesM sc).getD (ordA sc q) "" :: elM sc ((namesM sc).getD (ordA sc q) "")
    rw [e2, List.map_cons, elI_stable sc q (by omega) 11 (by omega)]
theorem rows_hs : Hs (rowsM sc) (elM sc) := by
  have hm := many_le sc
  have lenr : (rowsM sc).length = manyM sc := by unfold rowsM; rw [List.length_map, List.length_range]
  refine ⟨by omega, by rw [nameL_rows]; exact names_nodup sc, fun r hr => ?_, fun r hr => ?_, fun r hr e he => ?_, fun r hr => ?_, fun r hr => ?_, fun r hr => ?_, fun r hr p hp => ?_, fun r hr h hh => ?_, fun r hr h hh => ?_⟩ <;> obtain ⟨j, hj, rfl⟩ := rows_mem sc hr
  · exact (row_fields sc j).1
  · exact (row_heads sc j).1
  · have he : ((elds sc).getD j none).map (fun e => (namesM sc).getD e "") = some e := he
    cases h : (elds sc).getD j none with
    | none => rw [h] at he; cases he
    | some x =>
      rw [h] at he
      have hx := elds_val h
      exact ⟨rowAt sc x, List.mem_map.mpr ⟨x, List.mem_range.mpr hx, rfl⟩, Option.some.inj he⟩
  · exact elM_row sc hj
  · unfold elM
    split
    · rw [List.length_map]; exact elI_len sc 12 _
    · exact Nat.zero_le _
  · exact (low_getD (low_names sc) _).ok
  · have := (row_fields sc j).2 p hp
    exact ⟨this.1.ok, this.2.ok⟩
  · obtain ⟨h1, h2, h3, _⟩ := (row_heads sc j).2 h hh
    exact ⟨h1.ok, h2.ok, fun p hp => ⟨(h3 p hp).1.ok, (h3 p hp).2.ok⟩⟩
  · exact ((row_heads sc j).2 h hh).2.2.2
end
theorem Hs.bare {rows : List HRow} {el : Str → List Str} (R : Hs rows el) : Hs (rows.map bareR) fun _ => [] := by
  have mem : ∀ {r : HRow}, r ∈ rows.map bareR → ∃ q ∈ rows, bareR q = r := fun h => by
    obtain ⟨q, hq, e⟩ := List.mem_map.mp h
    exact ⟨q, hq, e⟩
  refine ⟨by rw [List.length_map]; exact R.len, by have := R.nd; unfold nameL at this ⊢; rw [List.map_map]; exact this, fun r hr => ?_, fun r hr => ?_, fun r hr e he => ?_, fun r hr => ?_, fun r hr => Nat.zero_le _, fun r hr => ?_, fun r hr => ?_, fun r hr => ?_, fun r hr => ?_⟩ <;> obtain ⟨q, hq, rfl⟩ := mem hr
  · exact R.fl q hq
  · exact R.hl q hq
  · cases he
  · rfl
  · exact R.okn q hq
  · exact R.okf q hq
  · exact R.okh q hq
  · exact R.pl q hq
theorem Hs.sz {rows : List HRow} {el : Str → List Str} (R : Hs rows el) : Sz rows := ⟨R.len, R.fl, R.hl⟩
end EH

set_option maxRecDepth 100000
set_option maxHeartbeats 4000000
/-! The law walked. -/
namespace EH
open PySem PySem.Spec PyProof.Rows L2 DL LamX
def RLaw (ds : List D) (d : D) : Prop := ∃ sc : List Int, ds = [.scr sc] ∧ sc.length ≤ 63 ∧ d = .bool true
section
variable {P : Program} {w : World} {K : PySem.W.Frag} {mg : Str → Option Value} {base : Heap}
abbrev sLaw : Stmt := topS 40
abbrev nLaw : List Str := ["_law_script", "_law_rows_here", "_law_hall", "_law_beside", "_law_names", "_law_fields_here", "_law_heads_here", "_law_row", "_law_due", "_law_name_here"]
theorem scLaw : FnScope nLaw ["_law_script"] (defScope sLaw) := ⟨rfl, rfl, rfl, by decide +kernel, rfl, by decide +kernel, by decide +kernel⟩
theorem ok_law {f Pt C CP CN : Addr} {fd : FuncData} (F : Fun K "law" "law" sLaw f fd) (T : Blt mg) (cR : CalN P w K mg base (orderT Pt) 6 "_law_rows" RRows) (cP : CalD P w K mg base 1 "_law_program" RProg) (cO : CalD P w K mg base 6 "program_of" (RProgOf CP CN))
    (mH : MakD P w K mg base 1 "Hall" C fun ds fs => RHallInit CP CN ds [] fs) (c2 : CalD P w K mg base 1 "_law_firsts" RFirsts2) (c3 : CalD P w K mg base 1 "_law_firsts" RFirsts3) (cA : CalD P w K mg base 4 "_law_alone" (RAlone C)) (cF : CalD P w K mg base 4 "_law_fields_follow" (RFF C)) (cW : CalD P w K mg base 4 "_law_words_follow" (RWF C))
    (cE : MetD P w K mg base 1 C "elders" (RElders2 C)) (cY : MetD P w K mg base 2 C "younger" (RYounger C)) (cH : MetD P w K mg base 1 C "houses" (RHouses C)) : FnOk P w K mg base CX0 8 f fd ["_law_script"] (spN K (orderT Pt) RLaw) := by
  refine fn_dataN F scLaw (fun ds d h => ?_) (fun A outer s H E hr ds d h => ?_)
  · obtain ⟨_, rfl, _⟩ := h
    rfl
  · obtain ⟨sc, rfl, hsc, rfl⟩ := h
    refine sdt_call (i := 1) scLaw.nd cR hr (by decide) (ea_cons (ee_var 0) ea_nil) ⟨sc, rfl, hsc, rfl⟩ ?_
    have R := rows_hs sc
    have Rb := R.bare
    generalize rowsM sc = rows at R Rb
    generalize elM sc = el at R
    have lenr := R.len
    refine sdt_end ?_
    refine sds_from (ρ1 := [.dat (.scr sc), .dat (.list (rows.map encR)), .no, .no, .no, .no, .no, .no, .no, .no]) ?_ rfl
    refine sds_cons (sd_set (i := 2) scLaw.nd (ee_make mH hr (by decide) (ea_cons (ee_call cO hr (by decide) (ea_cons (ee_call cP hr (by decide) (ea_cons (ee_var 1) ea_nil) ⟨rows, rfl, R.sz, rfl⟩) ea_nil) ⟨rows, rfl, R.sz, rfl⟩) ea_nil) ⟨rows, rfl, R.sz, R.nd, rfl, rfl⟩)) ?_
    refine sds_cons (sd_set (i := 3) scLaw.nd (ee_make mH hr (by decide) (ea_cons (ee_call cO hr (by decide) (ea_cons (ee_call cP hr (by decide) (ea_cons (EN.ee (en_is (en_lc1 (as := rows) (e := fun r => encR (bareR r)) encR 7 scLaw.nd (blkOk_by (N := nLaw) (sc := defScope sLaw) (by decide +kernel)) (ie_list (ee_var 1)) (by omega)
      (fun r hr s H0 C cl fp => ee_tup (ea_cons (ee_ixT (ee_var 7) ee_int) (ea_cons ee_non (ea_cons (ee_ixT (ee_var 7) ee_int) (ea_cons (ee_ixT (ee_var 7) ee_int) ea_nil)))))) (ys := (rows.map bareR).map encR) (by rw [List.map_map]; rfl))) ea_nil) ⟨rows.map bareR, rfl, Rb.sz, rfl⟩) ea_nil) ⟨rows.map bareR, rfl, Rb.sz, rfl⟩) ea_nil) ⟨rows.map bareR, rfl, Rb.sz, Rb.nd, rfl, rfl⟩)) ?_
    refine sds_cons (ρ1 := [.dat (.scr sc), .dat (.list (rows.map encR)), .dat (hallD C rows), .dat (hallD C (rows.map bareR)), .dat (.list ((nameL rows).map D.str)), .no, .no, .no, .no, .no])
      (sd_to (sd_frozen (sd_setLc1 (i := 4) (as := rows) (e := fun r => .str r.name) encR 7 scLaw.nd (blkOk_by (N := nLaw) (sc := defScope sLaw) (by decide +kernel)) (ie_list (ee_var 1)) (by omega) (fun r hr s H0 C cl fp => ee_ixT (ee_var 7) ee_int)) (i := 4)) ?_) ?_
    · unfold nameL
      rw [List.map_map]
      rfl
    refine sds_cons (sd_set (i := 5) scLaw.nd (ee_call c2 hr (by decide) (ea_cons (ee_var 1) (ea_cons ee_int ea_nil)) ⟨rows, rfl, R.sz, rfl⟩)) ?_
    refine sds_cons (sd_set (i := 6) scLaw.nd (ee_call c3 hr (by decide) (ea_cons (ee_var 1) (ea_cons ee_int ea_nil)) ⟨rows, rfl, R.sz, rfl⟩)) ?_
    have l2 : (firsts2 rows).length ≤ 40000 := by
      have : (firsts2 rows).length ≤ 5 * rows.length := flat_len fun x hx => by rw [List.length_map]; exact R.fl x hx
      omega
    have l3 : (firsts3 rows).length ≤ 40000 := by
      have : (firsts3 rows).length ≤ 8 * rows.length := flat_len fun x hx => by rw [List.length_map]; exact R.hl x hx
      omega
    have okn : ∀ s ∈ nameL rows, SOk s := fun s hs => by
      obtain ⟨q, hq, rfl⟩ := List.mem_map.mp hs
      exact R.okn q hq
    refine sds_cons (ρ1 := [.dat (.scr sc), .dat (.list (rows.map encR)), .dat (hallD C rows), .dat (hallD C (rows.map bareR)), .dat (.list ((nameL rows).map D.str)), .dat (.list ((firsts2 rows).map D.str)), .dat (.list ((firsts3 rows).map D.str)), .no, .no, .no])
      (sd_for1 (as := rows) (P := fun _ => [.dat (.scr sc), .dat (.list (rows.map encR)), .dat (hallD C rows), .dat (hallD C (rows.map bareR)), .dat (.list ((nameL rows).map D.str)), .dat (.list ((firsts2 rows).map D.str)), .dat (.list ((firsts3 rows).map D.str)), .no, .no, .no]) 7 encR scLaw.nd (ie_list (ee_var 1)) rfl (fun pre r post e => ?_))
      (sds_ret (sd_ret (ee_eq (n := 1) hr (ee_meth0 cH hr (by decide) (ee_var 2) (by rfl) ⟨rows, rfl, rfl⟩) (ee_var 4) (pl_strs okn))))
    have hr1 : r ∈ rows := by rw [e]; simp
    have hn : r.name ∈ nameL rows := List.mem_map.mpr ⟨r, hr1, rfl⟩
    refine sds_less (i := 7) (ρ1 := [.dat (.scr sc), .dat (.list (rows.map encR)), .dat (hallD C rows), .dat (hallD C (rows.map bareR)), .dat (.list ((nameL rows).map D.str)), .dat (.list ((firsts2 rows).map D.str)), .dat (.list ((firsts3 rows).map D.str)), .dat (encR r), .no, .no]) ?_
    refine sds_less (i := 8) (ρ1 := [.dat (.scr sc), .dat (.list (rows.map encR)), .dat (hallD C rows), .dat (hallD C (rows.map bareR)), .dat (.list ((nameL rows).map D.str)), .dat (.list ((firsts2 rows).map D.str)), .dat (.list ((firsts3 rows).map D.str)), .dat (encR r), .dat (.list ((el r.name).map D.str)), .no]) ?_
    have elok : ∀ s ∈ el r.name, SOk s := fun s hs => by
      obtain ⟨q, hq, rfl⟩ := el_mem R hr1 hs
      exact R.okn q hq
    refine sds_cons (sd_set (i := 8) (d := .list ((el r.name).map D.str)) scLaw.nd ?_) ?_
    · have ell := R.ell r hr1
      rw [R.elq r hr1] at ell ⊢
      cases he : r.elder with
      | none =>
        refine ee_if (et_isN (d := encE r.elder) (ee_ixT (ee_var 7) ee_int)) (fun _ => EN.ee (en_lst ea_nil)) (fun z => ?_)
        rw [he] at z
        exact nomatch (show true = false from z)
      | some x =>
        obtain ⟨q, hq, rfl⟩ := R.up r hr1 x he
        rw [he] at ell
        have hx : D.str q.name = encE r.elder := by rw [he]; rfl
        refine ee_if (et_isN (d := encE r.elder) (ee_ixT (ee_var 7) ee_int)) (fun z => ?_) (fun _ => EN.ee (en_cat (EN.ee (en_lst (ea_cons (ee_is (ee_ixT (d := encE r.elder) (ee_var 7) ee_int) hx.symm) ea_nil))) (ee_meth cE hr (by decide) (ee_var 2) (by rfl) (ea_cons (ee_is (ee_ixT (d := encE r.elder) (ee_var 7) ee_int) hx.symm) ea_nil) ⟨rows, el, q.name, rfl, R, List.mem_map.mpr ⟨q, hq, rfl⟩, rfl⟩) ?_))
        · rw [he] at z
          exact nomatch (show false = true from z)
        · rw [List.length_map]
          unfold elNext at ell
          rw [List.length_cons] at ell
          show 1 + _ ≤ _
          omega
    refine sds_cons (sd_ifF (EW.toT (ew_orF (et_ne (n := 1) hr (ee_meth cE hr (by decide) (ee_var 2) (by rfl) (ea_cons (ee_ixT (ee_var 7) ee_int) ea_nil) ⟨rows, el, r.name, rfl, R, hn, rfl⟩) (ee_var 8) (pl_strs elok))
      (ew_or1 (et_is (et_not (et_call (ee_call cA hr (by decide) (ea_cons (ee_var 3) (ea_cons (ee_var 1) (ea_cons (ee_var 7) (ea_cons (ee_var 6) ea_nil)))) ⟨rows, r, firsts3 rows, rfl, Rb, hr1, l3, rfl⟩))) rfl)))) sds_nil) ?_
    refine sds_cons (sd_ifF (et_ne (n := 1) (d := .list (((nameL rows).filter fun o => decide (r.name ∈ el o)).map D.str)) hr (ee_meth cY hr (by decide) (ee_var 2) (by rfl) (ea_cons (ee_ixT (ee_var 7) ee_int) ea_nil) ⟨rows, el, r.name, rfl, R, rfl⟩)
      (EN.ee (en_lcIf (as := nameL rows) (f := fun o => decide (r.name ∈ el o)) (e := D.str) D.str 9 scLaw.nd (blkOk_by (N := nLaw) (sc := defScope sLaw) (by decide +kernel)) (ie_list (ee_var 4)) (by unfold nameL; rw [List.length_map]; omega) (fun o ho => ⟨fun s H0 C cl fp => et_in (ee_ixT (ee_var 7) ee_int) (ee_meth cE hr (by decide) (ee_var 2) (by rfl) (ea_cons (ee_var 9) ea_nil) ⟨rows, el, o, rfl, R, ho, rfl⟩), fun s H0 C cl fp => ee_var 9⟩)))
      (pl_strs fun s hs => okn s (List.mem_filter.mp hs).1)) sds_nil) ?_
    exact sds_one (sd_ifF (EW.toT (ew_orF (et_is (et_not (et_call (ee_call cF hr (by decide) (ea_cons (ee_var 2) (ea_cons (ee_var 7) (ea_cons (ee_var 5) ea_nil))) ⟨rows, el, r, firsts2 rows, rfl, R, hr1, l2, rfl⟩))) rfl)
      (ew_or1 (et_is (et_not (et_call (ee_call cW hr (by decide) (ea_cons (ee_var 2) (ea_cons (ee_var 7) (ea_cons (ee_var 6) ea_nil))) ⟨rows, el, r, firsts3 rows, rfl, R, hr1, l3, rfl⟩))) rfl)))) sds_nil)
end
end EH

set_option maxRecDepth 100000
set_option maxHeartbeats 0
/-! The top run: what it leaves, by names. -/
namespace EH
open PySem PySem.Spec PyProof.Rows L2
def dF (x : Str) (st : Stmt) : He.DefD := ⟨(x, none), x, x, defArgs st, defBody st, defScope st, [], []⟩
def dM (c m q : Str) (st : Stmt) : He.DefD := ⟨(c, some m), m, q, defArgs st, defBody st, defScope st, [], []⟩
def hFn : List He.DefD := [dF "_law_drawn" sDrawn, dF "_law_name" sName, dF "_law_order" sOrder, dF "_law_elders_drawn" sElders, dF "_law_kind" sKind, dF "_law_fields" sFields, dF "_law_params" sParams, dF "_law_heads" sHeads, dF "_law_rows" sRows, dF "_law_program" sProg, dF "_law_firsts" sFirsts,
  dF "_law_fields_follow" sFF, dF "_law_words_follow" sWF, dF "_law_alone" sAlone, dF "law" sLaw, dF "leaf_of" sLeaf, dF "term_of" sTerm, dF "program_of" sProgOf,
  dM "Hall" "__init__" "Hall.__init__" mHallInit, dM "Hall" "houses" "Hall.houses" mHouses, dM "Hall" "elders" "Hall.elders" mElders, dM "Hall" "younger" "Hall.younger" mYounger, dM "Hall" "fields" "Hall.fields" mFields, dM "Hall" "place" "Hall.place" mPlace, dM "Hall" "found" "Hall.found" mFound, dM "Hall" "head" "Hall.head" mHead,
  dM "Term" "__init__" "Term.__init__" mTermInit, dM "NumberTerm" "__init__" "NumberTerm.__init__" mNumInit, dM "Program" "__init__" "Program.__init__" mProgInit]
def hFa : List He.Fa := [.glo "_law_drawn", .glo "_law_name", .glo "_law_order", .glo "_law_elders_drawn", .glo "_law_kind", .glo "_law_fields", .glo "_law_params", .glo "_law_heads", .glo "_law_rows", .glo "_law_program", .glo "_law_firsts", .glo "_law_fields_follow", .glo "_law_words_follow", .glo "_law_alone", .glo "law",
  .glo "leaf_of", .glo "term_of", .glo "program_of", .glo "Hall", .glo "NumberTerm", .glo "Program", .glo "Term",
  .free "len", .free "range", .free "list", .free "tuple", .free "int", .free "str", .free "sorted", .free "enumerate", .free "reversed", .free "max", .free "sum",
  .cls "Hall", .noat "Hall" "order", .noat "Hall" "above", .noat "Hall" "own", .noat "Hall" "heads", .meth "Hall" "houses", .meth "Hall" "elders", .meth "Hall" "younger", .meth "Hall" "fields", .meth "Hall" "place", .meth "Hall" "found", .meth "Hall" "head", .mkr "Hall",
  .cls "NumberTerm", .noat "NumberTerm" "inner", .noat "NumberTerm" "height", .noat "NumberTerm" "many", .noat "NumberTerm" "number", .mkr "NumberTerm", .cls "Program", .noat "Program" "houses_told", .noat "Program" "main_told", .mkr "Program"]
def hEx (K : PySem.W.Frag) : Bool := PySem.W.readsIn K (He.ga K "Term") (.type "type") && (match PySem.W.findCls K (.ref (He.ga K "Term")) (.type "type") "__init__" with
  | some (.val (.ref g)) => decide (g = He.ma K (He.ga K "Term") "__init__")
  | _ => false)
def hTf : List He.Defn := [("_law_order", none)]
abbrev R : PySem.W.OpenRow := PySem.W.OpenLaw.row PySem.Challenge.rw_elderhouse_k23_whole_halls
/-- what the names reach in n steps, and the interpreter's own statics (readsIn looks there) -/
def asY (g : Addr → Option Obj) (n : Nat) : List Addr := He.asD g n ++ [cStatics]
def obsY (n : Nat) (fa : List He.Fa) (fn : List He.DefD) (tf : List He.Defn) (ex : PySem.W.Frag → Bool) (g : Addr → Option Obj) : He.AlX := (He.obsT fa fn [] (He.frT g (asY g n)), ex (He.frT g (asY g n)) && He.tabsB g tf (He.frT g (asY g n)))
theorem saysY_of {n : Nat} {fa : List He.Fa} {fn : List He.DefD} {tf : List He.Defn} {ex : PySem.W.Frag → Bool} {w : World} {h : Heap} (e : obsY n fa fn tf ex h.get? = He.valX fn [] w) : He.SaysX fa fn [] tf ex w h (He.frT h.get? (asY h.get? n)) := by
  have e1 : He.obsT fa fn [] (He.frT h.get? (asY h.get? n)) = He.valT fn [] w := congrArg (fun z : He.AlX => z.1) e
  have e2 : (ex (He.frT h.get? (asY h.get? n)) && He.tabsB h.get? tf (He.frT h.get? (asY h.get? n))) = true := congrArg (fun z : He.AlX => z.2) e
  obtain ⟨h1, h2⟩ := He.ba e2
  have key : ∀ p ∈ tf, PySem.W.codeHdIn (He.frT h.get? (asY h.get? n)) (He.cT (He.frT h.get? (asY h.get? n)) p).1 (He.cT (He.frT h.get? (asY h.get? n)) p).2 = true ∧ ∃ o, h.get? (He.cT (He.frT h.get? (asY h.get? n)) p).2 = some o ∧ He.emptyTab o = true := fun p hp => by
    obtain ⟨h3, h4⟩ := He.ba (List.all_eq_true.mp h2 p hp)
    refine ⟨h3, ?_⟩
    cases q : h.get? (He.cT (He.frT h.get? (asY h.get? n)) p).2 with
    | none => rw [q] at h4; cases h4
    | some o => rw [q] at h4; exact ⟨o, rfl, h4⟩
  exact ⟨e1, h1, fun p hp => (key p hp).1, fun p hp => by
    obtain ⟨_, o, q, z⟩ := key p hp
    exact He.frT_none q z, fun p hp => by
    obtain ⟨_, o, q, z⟩ := key p hp
    rw [q, He.emptyTab_eq z]⟩
def hookY (n : Nat) (fa : List He.Fa) (fn : List He.DefD) (tf : List He.Defn) (ex : PySem.W.Frag → Bool) : PySem.W.Hook where
  α := He.AlX
  obs := fun s => obsY n fa fn tf ex s.heap.get?
  val := fun w => He.valX fn [] w
  says := fun w h => ∃ K : PySem.W.Frag, K.In h ∧ He.SaysX fa fn [] tf ex w h K
  of := fun _ _ e => ⟨_, He.frT_in, saysY_of e⟩
  keeps := fun _ _ _ ⟨K, hK, c⟩ k => ⟨K, PySem.W.Frag.In.keeps hK k, ⟨c.t, c.more, c.hd, c.out, fun p hp => k _ _ (c.empty p hp)⟩⟩
theorem obsY_eq {n : Nat} {fa : List He.Fa} {fn : List He.DefD} {tf : List He.Defn} {ex : PySem.W.Frag → Bool} {g : Addr → Option Obj} {s : Shared} (h : ∀ a, g a = s.heap.get? a) : obsY n fa fn tf ex g = (hookY n fa fn tf ex).obs s := by
  have e : g = s.heap.get? := funext h
  rw [e] <;> rfl
abbrev hHk : PySem.W.Hook := hookY 4 hFa hFn hTf hEx
def hOb (s : PySem.W.SharedT) : He.AlX := obsY 4 hFa hFn hTf hEx (HandSHeadRun.getT s)
theorem hOb_eq (s : PySem.W.SharedT) : hOb s = hHk.obs s.abs := obsY_eq (HandSHeadRun.getT_eq s)
def loose1 : List Str := ["_wall", "Hall", "Term", "plains", "NumberTerm", "TruthTerm", "NameTerm", "SelfTerm", "NewTerm", "ElderTerm", "FieldTerm", "CallTerm", "NotTerm", "TwoTerm", "IfTerm", "LetTerm", "SetTerm", "Program", "leaf_of", "thing_term_of", "term_of", "program_of"]
def loose2 : List Str := ["_law_drawn", "_law_name", "_law_order", "_law_elders_drawn", "_law_kind", "_law_fields", "_law_params", "_law_heads", "_law_rows", "_law_program", "_law_firsts", "_law_fields_follow", "_law_words_follow", "_law_alone"]
theorem run (w : World) : HandSHeadRun.RunEq R (PySem.W.view R.prog [40]) hHk hOb 6500 (loose1 ++ loose2) w := by
  intro os
  kernel_rfl
end EH

set_option maxRecDepth 100000
set_option maxHeartbeats 0
/-! The end. -/
namespace EH
open PySem PySem.Spec PyProof.Rows L2 DL LamX
theorem fun_of {K : PySem.W.Frag} {x qual : Str} {st : Stmt} {f : Addr} {fd : FuncData} (F : FunD K x qual (defArgs st) (defBody st) (defScope st) [] [] f fd) : Fun K x qual st f fd := by
  obtain ⟨⟨oc, od, dV, kV, doc, pm, an, cdv, ct, osl, e, lk, hc, hd, _⟩, kp⟩ := F
  rcases hd with ⟨_, e2⟩ | ⟨e2, _⟩
  · subst e2
    exact ⟨⟨oc, od, kV, doc, pm, an, cdv, ct, osl, e, lk, hc⟩, kp⟩
  · exact absurd rfl e2
section
variable {K : PySem.W.Frag} {h : Heap} {mg : Str → Option Value}
theorem fnF (c : He.SaysD hFa hFn K) {x : Str} {st : Stmt} (hm : dF x st ∈ hFn) : ∃ fd, Fun K x x st (He.ga K x) fd := by
  obtain ⟨fd, F⟩ := c.defs hm
  exact ⟨fd, fun_of F⟩
theorem fnM (c : He.SaysD hFa hFn K) {cl m q : Str} {st : Stmt} (hm : dM cl m q st ∈ hFn) : ∃ fd, Fun K m q st (He.ma K (He.ga K cl) m) fd := by
  obtain ⟨fd, F⟩ := c.defs hm
  exact ⟨fd, fun_of F⟩
theorem glo (X : K.In h) (G : h.Ns mainGlobals mg) (c : He.SaysD hFa hFn K) {x : Str} (hm : He.Fa.glo x ∈ hFa) : mg x = some (.ref (He.ga K x)) := He.glo_ok X G (c.facts hm)
theorem blt_of (X : K.In h) (G : h.Ns mainGlobals mg) (c : He.SaysD hFa hFn K) : Blt mg := by
  have all : ∀ {x : Str}, He.Fa.free x ∈ hFa → mg x = none := fun hm => He.free_ok X G (c.facts hm)
  exact ⟨all (by simp [hFa]), all (by simp [hFa]), all (by simp [hFa]), all (by simp [hFa]), all (by simp [hFa]), all (by simp [hFa]), all (by simp [hFa]), all (by simp [hFa]), all (by simp [hFa]), all (by simp [hFa]), all (by simp [hFa])⟩
theorem cread_of {C : Addr} (h : PySem.W.readsIn K C (.type "type") = true) : ClX.CRead K C (.type "type") := by
  refine ⟨h, ?_⟩
  unfold PySem.W.readsIn at h
  obtain ⟨h, _⟩ := He.ba h
  obtain ⟨h, _⟩ := He.ba h
  obtain ⟨h, h3⟩ := He.ba h
  obtain ⟨_, h2⟩ := He.ba h
  unfold PySem.W.specialIn
  rw [beq_iff_eq.mp h2, Option.bind_some]
  exact beq_iff_eq.mp h3
theorem ex_of (e : hEx K = true) : ClX.CRead K (He.ga K "Term") (.type "type") ∧ ClX.CVal K (He.ga K "Term") (.type "type") "__init__" (.ref (He.ma K (He.ga K "Term") "__init__")) (.ref (He.ma K (He.ga K "Term") "__init__")) := by
  unfold hEx at e
  obtain ⟨h1, h2⟩ := He.ba e
  refine ⟨cread_of h1, ?_, rfl⟩
  split at h2
  · rename_i g hg
    rw [hg, of_decide_eq_true h2]
  · cases h2
theorem law_at {l : PySem.W.OpenLaw} {w : World} {fa : Addr} (X : K.In h) (G : h.Ns mainGlobals mg) (S : He.SaysX hFa hFn [] hTf hEx w h K) (hfa : mg "law" = some (.ref fa)) : LawAtS l w K CX0 8 63 "_law_script" mg fa h := by
  have c : He.SaysD hFa hFn K := S.t.d
  have T := blt_of X G c
  obtain ⟨d_drawn, F_drawn⟩ := fnF c (x := "_law_drawn") (st := sDrawn) (by simp [hFn])
  have g_drawn := glo X G c (x := "_law_drawn") (by simp [hFa])
  obtain ⟨d_name, F_name⟩ := fnF c (x := "_law_name") (st := sName) (by simp [hFn])
  have g_name := glo X G c (x := "_law_name") (by simp [hFa])
  obtain ⟨d_order, F_order⟩ := fnF c (x := "_law_order") (st := sOrder) (by simp [hFn])
  have g_order := glo X G c (x := "_law_order") (by simp [hFa])
  obtain ⟨d_elds, F_elds⟩ := fnF c (x := "_law_elders_drawn") (st := sElders) (by simp [hFn])
  have g_elds := glo X G c (x := "_law_elders_drawn") (by simp [hFa])
  obtain ⟨d_kind, F_kind⟩ := fnF c (x := "_law_kind") (st := sKind) (by simp [hFn])
  have g_kind := glo X G c (x := "_law_kind") (by simp [hFa])
  obtain ⟨d_flds, F_flds⟩ := fnF c (x := "_law_fields") (st := sFields) (by simp [hFn])
  have g_flds := glo X G c (x := "_law_fields") (by simp [hFa])
  obtain ⟨d_pars, F_pars⟩ := fnF c (x := "_law_params") (st := sParams) (by simp [hFn])
  have g_pars := glo X G c (x := "_law_params") (by simp [hFa])
  obtain ⟨d_hds, F_hds⟩ := fnF c (x := "_law_heads") (st := sHeads) (by simp [hFn])
  have g_hds := glo X G c (x := "_law_heads") (by simp [hFa])
  obtain ⟨d_rows, F_rows⟩ := fnF c (x := "_law_rows") (st := sRows) (by simp [hFn])
  have g_rows := glo X G c (x := "_law_rows") (by simp [hFa])
  obtain ⟨d_prog, F_prog⟩ := fnF c (x := "_law_program") (st := sProg) (by simp [hFn])
  have g_prog := glo X G c (x := "_law_program") (by simp [hFa])
  obtain ⟨d_firsts, F_firsts⟩ := fnF c (x := "_law_firsts") (st := sFirsts) (by simp [hFn])
  have g_firsts := glo X G c (x := "_law_firsts") (by simp [hFa])
  obtain ⟨d_ff, F_ff⟩ := fnF c (x := "_law_fields_follow") (st := sFF) (by simp [hFn])
  have g_ff := glo X G c (x := "_law_fields_follow") (by simp [hFa])
  obtain ⟨d_wf, F_wf⟩ := fnF c (x := "_law_words_follow") (st := sWF) (by simp [hFn])
  have g_wf := glo X G c (x := "_law_words_follow") (by simp [hFa])
  obtain ⟨d_alone, F_alone⟩ := fnF c (x := "_law_alone") (st := sAlone) (by simp [hFn])
  have g_alone := glo X G c (x := "_law_alone") (by simp [hFa])
  obtain ⟨d_law, F_law⟩ := fnF c (x := "law") (st := sLaw) (by simp [hFn])
  have g_law := glo X G c (x := "law") (by simp [hFa])
  obtain ⟨d_leaf, F_leaf⟩ := fnF c (x := "leaf_of") (st := sLeaf) (by simp [hFn])
  have g_leaf := glo X G c (x := "leaf_of") (by simp [hFa])
  obtain ⟨d_term, F_term⟩ := fnF c (x := "term_of") (st := sTerm) (by simp [hFn])
  have g_term := glo X G c (x := "term_of") (by simp [hFa])
  obtain ⟨d_pof, F_pof⟩ := fnF c (x := "program_of") (st := sProgOf) (by simp [hFn])
  have g_pof := glo X G c (x := "program_of") (by simp [hFa])
  obtain ⟨d_hinit, F_hinit⟩ := fnM c (cl := "Hall") (m := "__init__") (q := "Hall.__init__") (st := mHallInit) (by simp [hFn])
  obtain ⟨d_houses, F_houses⟩ := fnM c (cl := "Hall") (m := "houses") (q := "Hall.houses") (st := mHouses) (by simp [hFn])
  obtain ⟨d_elders, F_elders⟩ := fnM c (cl := "Hall") (m := "elders") (q := "Hall.elders") (st := mElders) (by simp [hFn])
  obtain ⟨d_younger, F_younger⟩ := fnM c (cl := "Hall") (m := "younger") (q := "Hall.younger") (st := mYounger) (by simp [hFn])
  obtain ⟨d_fields, F_fields⟩ := fnM c (cl := "Hall") (m := "fields") (q := "Hall.fields") (st := mFields) (by simp [hFn])
  obtain ⟨d_place, F_place⟩ := fnM c (cl := "Hall") (m := "place") (q := "Hall.place") (st := mPlace) (by simp [hFn])
  obtain ⟨d_found, F_found⟩ := fnM c (cl := "Hall") (m := "found") (q := "Hall.found") (st := mFound) (by simp [hFn])
  obtain ⟨d_head, F_head⟩ := fnM c (cl := "Hall") (m := "head") (q := "Hall.head") (st := mHead) (by simp [hFn])
  obtain ⟨d_tinit, F_tinit⟩ := fnM c (cl := "Term") (m := "__init__") (q := "Term.__init__") (st := mTermInit) (by simp [hFn])
  obtain ⟨d_ninit, F_ninit⟩ := fnM c (cl := "NumberTerm") (m := "__init__") (q := "NumberTerm.__init__") (st := mNumInit) (by simp [hFn])
  obtain ⟨d_pinit, F_pinit⟩ := fnM c (cl := "Program") (m := "__init__") (q := "Program.__init__") (st := mProgInit) (by simp [hFn])
  have b_drawn := F_drawn.binds (ps := ["_law_script", "_law_k"]) fun _ _ _ _ _ _ us hl => match us, hl with | [_, _], _ => rfl
  have b_name := F_name.binds (ps := ["_law_cell", "_law_k"]) fun _ _ _ _ _ _ us hl => match us, hl with | [_, _], _ => rfl
  have b_order := F_order.binds (ps := ["_law_script", "_law_many"]) fun _ _ _ _ _ _ us hl => match us, hl with | [_, _], _ => rfl
  have b_elds := F_elds.binds (ps := ["_law_script", "_law_order_here"]) fun _ _ _ _ _ _ us hl => match us, hl with | [_, _], _ => rfl
  have b_kind := F_kind.binds (ps := ["_law_number", "_law_names"]) fun _ _ _ _ _ _ us hl => match us, hl with | [_, _], _ => rfl
  have b_flds := F_flds.binds (ps := ["_law_script", "_law_j", "_law_taken", "_law_pool", "_law_names"]) fun _ _ _ _ _ _ us hl => match us, hl with | [_, _, _, _, _], _ => rfl
  have b_pars := F_pars.binds (ps := ["_law_number", "_law_pool", "_law_names"]) fun _ _ _ _ _ _ us hl => match us, hl with | [_, _, _], _ => rfl
  have b_hds := F_hds.binds (ps := ["_law_script", "_law_j", "_law_pools", "_law_names"]) fun _ _ _ _ _ _ us hl => match us, hl with | [_, _, _, _], _ => rfl
  have b_rows := F_rows.binds (ps := ["_law_script"]) fun _ _ _ _ _ _ us hl => match us, hl with | [_], _ => rfl
  have b_prog := F_prog.binds (ps := ["_law_rows_here"]) fun _ _ _ _ _ _ us hl => match us, hl with | [_], _ => rfl
  have b_firsts := F_firsts.binds (ps := ["_law_rows_here", "_law_place"]) fun _ _ _ _ _ _ us hl => match us, hl with | [_, _], _ => rfl
  have b_ff := F_ff.binds (ps := ["_law_hall", "_law_row", "_law_fields_here"]) fun _ _ _ _ _ _ us hl => match us, hl with | [_, _, _], _ => rfl
  have b_wf := F_wf.binds (ps := ["_law_hall", "_law_row", "_law_pool_here"]) fun _ _ _ _ _ _ us hl => match us, hl with | [_, _, _], _ => rfl
  have b_alone := F_alone.binds (ps := ["_law_hall", "_law_rows_here", "_law_row", "_law_pool_here"]) fun _ _ _ _ _ _ us hl => match us, hl with | [_, _, _, _], _ => rfl
  have b_law := F_law.binds (ps := ["_law_script"]) fun _ _ _ _ _ _ us hl => match us, hl with | [_], _ => rfl
  have b_leaf := F_leaf.binds (ps := ["plain"]) fun _ _ _ _ _ _ us hl => match us, hl with | [_], _ => rfl
  have b_term := F_term.binds (ps := ["plain"]) fun _ _ _ _ _ _ us hl => match us, hl with | [_], _ => rfl
  have b_pof := F_pof.binds (ps := ["plain"]) fun _ _ _ _ _ _ us hl => match us, hl with | [_], _ => rfl
  have b_hinit := F_hinit.binds (ps := ["self", "program"]) fun _ _ _ _ _ _ us hl => match us, hl with | [_, _], _ => rfl
  have b_houses := F_houses.binds (ps := ["self"]) fun _ _ _ _ _ _ us hl => match us, hl with | [_], _ => rfl
  have b_elders := F_elders.binds (ps := ["self", "house"]) fun _ _ _ _ _ _ us hl => match us, hl with | [_, _], _ => rfl
  have b_younger := F_younger.binds (ps := ["self", "house"]) fun _ _ _ _ _ _ us hl => match us, hl with | [_, _], _ => rfl
  have b_fields := F_fields.binds (ps := ["self", "house"]) fun _ _ _ _ _ _ us hl => match us, hl with | [_, _], _ => rfl
  have b_place := F_place.binds (ps := ["self", "house", "field"]) fun _ _ _ _ _ _ us hl => match us, hl with | [_, _, _], _ => rfl
  have b_found := F_found.binds (ps := ["self", "house", "word"]) fun _ _ _ _ _ _ us hl => match us, hl with | [_, _, _], _ => rfl
  have b_head := F_head.binds (ps := ["self", "house", "word"]) fun _ _ _ _ _ _ us hl => match us, hl with | [_, _, _], _ => rfl
  have b_tinit := F_tinit.binds (ps := ["self", "inner"]) fun _ _ _ _ _ _ us hl => match us, hl with | [_, _], _ => rfl
  have b_ninit := F_ninit.binds (ps := ["self", "number"]) fun _ _ _ _ _ _ us hl => match us, hl with | [_, _], _ => rfl
  have b_pinit := F_pinit.binds (ps := ["self", "houses_told", "main_told"]) fun _ _ _ _ _ _ us hl => match us, hl with | [_, _, _], _ => rfl
  have gH := glo X G c (x := "Hall") (by simp [hFa])
  have gN := glo X G c (x := "NumberTerm") (by simp [hFa])
  have gP := glo X G c (x := "Program") (by simp [hFa])
  have gT := glo X G c (x := "Term") (by simp [hFa])
  have hc : HC K (He.ga K "Hall") := ⟨He.cls_ok (c.facts (by simp [hFa])), He.noat_ok (c.facts (by simp [hFa])), He.noat_ok (c.facts (by simp [hFa])), He.noat_ok (c.facts (by simp [hFa])), He.noat_ok (c.facts (by simp [hFa]))⟩
  have nc : NC K (He.ga K "NumberTerm") := ⟨He.cls_ok (c.facts (by simp [hFa])), He.noat_ok (c.facts (by simp [hFa])), He.noat_ok (c.facts (by simp [hFa])), He.noat_ok (c.facts (by simp [hFa])), He.noat_ok (c.facts (by simp [hFa]))⟩
  have pc : PC K (He.ga K "Program") := ⟨He.cls_ok (c.facts (by simp [hFa])), He.noat_ok (c.facts (by simp [hFa])), He.noat_ok (c.facts (by simp [hFa]))⟩
  have kH : Mk K (He.ga K "Hall") _ := He.mkr_ok (c.facts (by simp [hFa]))
  have kN : Mk K (He.ga K "NumberTerm") _ := He.mkr_ok (c.facts (by simp [hFa]))
  have kP : Mk K (He.ga K "Program") _ := He.mkr_ok (c.facts (by simp [hFa]))
  have me : ∀ {m : Str}, He.Fa.meth "Hall" m ∈ hFa → Meth K (He.ga K "Hall") m (He.ma K (He.ga K "Hall") m) := fun hm => He.meth_ok (c.facts hm)
  obtain ⟨cr, cv⟩ := ex_of S.more
  have e0 := hfa.symm.trans g_law
  cases e0
  have hcode : d_order.code = .ref (He.cT K ("_law_order", none)).1 := by
    obtain ⟨oc, od, kV, doc, pm, an, cdv, ct, osl, rfl, lk, hc2⟩ := F_order.ex
    obtain ⟨c0, rfl⟩ := He.codeIn_ref hc2
    have e1 := He.codeOf_eq (p := ("_law_order", none)) lk (c := c0) rfl
    show Value.ref c0 = .ref (He.codeOf K ("_law_order", none))
    rw [e1]
  refine ⟨d_law, [He.cT K ("_law_order", none)], spN K (orderT (He.cT K ("_law_order", none)).2) RLaw, fun p hp => ?_, fun p hp => ?_, fun p hp => ?_, fun s u => ?_, fun H a ns hl _ hT hS => ?_, fun base KB GB hTB => ?_⟩
  · rw [List.mem_singleton.mp hp]; exact S.empty _ List.mem_cons_self
  · rw [List.mem_singleton.mp hp]; exact S.out _ List.mem_cons_self
  · rw [List.mem_singleton.mp hp]; exact PySem.W.codeHd_of_K X (S.hd _ List.mem_cons_self)
  · obtain ⟨oc, od, kV, doc, pm, an, cdv, ct, osl, rfl, lk, hc2⟩ := F_law.ex
    exact .of_eq rfl
  · refine ⟨[.scr ns], .bool true, .cons (.scr hS) .nil, ⟨ns, rfl, hl, rfl⟩, fun p hp => ?_, fun v H2 _ _ r => r.bool_inv⟩
    have hp : p ∈ [(_, _)] := hp
    rw [List.mem_singleton.mp hp]
    exact TabS.nil (hT _ List.mem_cons_self)
  · have TB := hTB _ List.mem_cons_self
    have cD : CalD l.prog w K mg base 1 "_law_drawn" RDrawn := ⟨_, _, _, ok_drawn F_drawn T, g_drawn, F_drawn.kp, b_drawn⟩
    have cN : CalD l.prog w K mg base 1 "_law_name" RName := ⟨_, _, _, ok_name F_name T, g_name, F_name.kp, b_name⟩
    have cO : CalN l.prog w K mg base (orderT (He.cT K ("_law_order", none)).2) 5 "_law_order" ROrder := ⟨_, _, _, ok_order F_order T cD TB hcode, g_order, F_order.kp, b_order⟩
    have cE : CalD l.prog w K mg base 2 "_law_elders_drawn" RElders := ⟨_, _, _, ok_elders F_elds T cD, g_elds, F_elds.kp, b_elds⟩
    have cK : CalD l.prog w K mg base 1 "_law_kind" RKind := ⟨_, _, _, ok_kind F_kind T, g_kind, F_kind.kp, b_kind⟩
    have cF : CalD l.prog w K mg base 2 "_law_fields" RFields := ⟨_, _, _, ok_fields F_flds T cD cK, g_flds, F_flds.kp, b_flds⟩
    have cP : CalD l.prog w K mg base 2 "_law_params" RParams := ⟨_, _, _, ok_params F_pars T cK, g_pars, F_pars.kp, b_pars⟩
    have cH : CalD l.prog w K mg base 3 "_law_heads" RHeads := ⟨_, _, _, ok_heads F_hds T cD cK cP, g_hds, F_hds.kp, b_hds⟩
    have cR : CalN l.prog w K mg base (orderT (He.cT K ("_law_order", none)).2) 6 "_law_rows" RRows := ⟨_, _, _, ok_rows F_rows T cD cN cO cE cF cH, g_rows, F_rows.kp, b_rows⟩
    have cG : CalD l.prog w K mg base 1 "_law_program" RProg := ⟨_, _, _, ok_prog F_prog T, g_prog, F_prog.kp, b_prog⟩
    have c2 : CalD l.prog w K mg base 1 "_law_firsts" RFirsts2 := ⟨_, _, _, ok_firsts2 F_firsts T, g_firsts, F_firsts.kp, b_firsts⟩
    have c3 : CalD l.prog w K mg base 1 "_law_firsts" RFirsts3 := ⟨_, _, _, ok_firsts3 F_firsts T, g_firsts, F_firsts.kp, b_firsts⟩
    have mN : MakD l.prog w K mg base 2 "NumberTerm" (He.ga K "NumberTerm") fun ds fs => RNumInit ds [] fs := ⟨_, _, _, me_init (ok_numInit F_ninit T nc gT cr cv F_tinit.kp (ok_termInit F_tinit T nc) b_tinit), kN, gN, b_ninit⟩
    have mP : MakD l.prog w K mg base 1 "Program" (He.ga K "Program") fun ds fs => RProgInit ds [] fs := ⟨_, _, _, me_init (ok_progInit F_pinit T pc), kP, gP, b_pinit⟩
    have mH : MakD l.prog w K mg base 1 "Hall" (He.ga K "Hall") fun ds fs => RHallInit (He.ga K "Program") (He.ga K "NumberTerm") ds [] fs := ⟨_, _, _, me_init (ok_hallInit F_hinit T hc pc), kH, gH, b_hinit⟩
    have cL : CalD l.prog w K mg base 4 "leaf_of" (RLeaf (He.ga K "NumberTerm")) := ⟨_, _, _, ok_leaf F_leaf T mN, g_leaf, F_leaf.kp, b_leaf⟩
    have cT : CalD l.prog w K mg base 5 "term_of" (RLeaf (He.ga K "NumberTerm")) := ⟨_, _, _, ok_term F_term T cL, g_term, F_term.kp, b_term⟩
    have cQ : CalD l.prog w K mg base 6 "program_of" (RProgOf (He.ga K "Program") (He.ga K "NumberTerm")) := ⟨_, _, _, ok_progOf F_pof T cT mP, g_pof, F_pof.kp, b_pof⟩
    have xH : MetD l.prog w K mg base 1 (He.ga K "Hall") "houses" (RHouses (He.ga K "Hall")) := ⟨_, _, _, ok_houses F_houses T hc, me (by simp [hFa]), b_houses, hc.cls⟩
    have xE : MetD l.prog w K mg base 1 (He.ga K "Hall") "elders" (RElders2 (He.ga K "Hall")) := ⟨_, _, _, ok_eldersH F_elders T hc, me (by simp [hFa]), b_elders, hc.cls⟩
    have xY : MetD l.prog w K mg base 2 (He.ga K "Hall") "younger" (RYounger (He.ga K "Hall")) := ⟨_, _, _, ok_younger F_younger T hc xE, me (by simp [hFa]), b_younger, hc.cls⟩
    have xF : MetD l.prog w K mg base 2 (He.ga K "Hall") "fields" (RFieldsH (He.ga K "Hall")) := ⟨_, _, _, ok_fieldsH F_fields T hc xE, me (by simp [hFa]), b_fields, hc.cls⟩
    have xP : MetD l.prog w K mg base 3 (He.ga K "Hall") "place" (RPlace (He.ga K "Hall")) := ⟨_, _, _, ok_place F_place T hc xF, me (by simp [hFa]), b_place, hc.cls⟩
    have xW : MetD l.prog w K mg base 2 (He.ga K "Hall") "found" (RFound (He.ga K "Hall")) := ⟨_, _, _, ok_found F_found T hc xE, me (by simp [hFa]), b_found, hc.cls⟩
    have xD : MetD l.prog w K mg base 3 (He.ga K "Hall") "head" (RHead (He.ga K "Hall")) := ⟨_, _, _, ok_head F_head T hc xW, me (by simp [hFa]), b_head, hc.cls⟩
    have cA : CalD l.prog w K mg base 4 "_law_alone" (RAlone (He.ga K "Hall")) := ⟨_, _, _, ok_alone F_alone T xE xY xF xW xH, g_alone, F_alone.kp, b_alone⟩
    have cFF : CalD l.prog w K mg base 4 "_law_fields_follow" (RFF (He.ga K "Hall")) := ⟨_, _, _, ok_ff F_ff T xF xP, g_ff, F_ff.kp, b_ff⟩
    have cWF : CalD l.prog w K mg base 4 "_law_words_follow" (RWF (He.ga K "Hall")) := ⟨_, _, _, ok_wf F_wf T xW xD, g_wf, F_wf.kp, b_wf⟩
    exact ok_law F_law T cR cG cQ mH c2 c3 cA cFF cWF xE xY xH
end
end EH
open PySem PySem.W PySem.Calls PyProof.Rows
theorem PySem.Challenge.cw_elderhouse_k23_whole_halls_holds : PySem.Challenge.rw_elderhouse_k23_whole_halls.Holds := by
  w_on; o_law
  refine HandSHeadRun.head_any (r := EH.R) (q := view EH.R.prog [40]) (H := EH.hHk) (ob := EH.hOb) (M := 6500) (loose := EH.loose1 ++ EH.loose2) (d := HandSHeadRun.topDef EH.R.prog 40) (kwd := []) EH.hOb_eq
    (by kernel_rfl) (fun s => by kernel_rfl) EH.run (by kernel_rfl) (by kernel_rfl) (by kernel_rfl) (by rfl) (by first | assumption | decide +kernel) (by decide +kernel) ⟨rfl, rfl, rfl, rfl, rfl, by decide +kernel⟩ ?hw ?hc
  case hw => w_witness2
  case hc =>
    refine LamX.walk_ofTsE (l := PySem.Challenge.rw_elderhouse_k23_whole_halls) (n := 63) (k := 8) (x := "_law_script") (CX := fun _ => L2.CX0) rfl (by decide) (by kernel_rfl) ⟨rfl, by decide, by decide⟩ ?F (fun _ _ _ _ _ z => z)
    intro w mg fa h Y G hmg0
    obtain ⟨K, KX, c⟩ := Y
    have hmg : mg ("law" : PySem.Str) = some (.ref fa) := by
      have e : (HandSHeadRun.topDef EH.R.prog 40).name = ("law" : PySem.Str) := by kernel_rfl
      rw [← e]
      exact hmg0
    exact ⟨K, KX, EH.law_at KX G c hmg⟩
