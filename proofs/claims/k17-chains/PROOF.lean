import PyProof.Rows.All
import Wide.All
import OpenK.AllK
import Wide.FinOn
import HandS.ForMost
import HandS.Wide
import HandS.Conv
import HandS.Style
import HandS.IsInst
import HandS.TupAny
import HandS.Flow
import HandS.SortInts
import HandS.Text
import PySem.Challenge.RW_swornlike_k17_whole_chains_rings_and_val
set_option Elab.async false
set_option linter.all false
set_option maxRecDepth 100000
section
/-! DA: values as deep data over the abstract heap; what a state of slots and changing objects means; steps. -/
namespace DL
open PySem PySem.Spec L2

inductive D where
  | non | bl (b : Bool) | int (i : Int) | str (s : Str) | lst (xs : List D) | tup (xs : List D) | fls (xs : List D) | adr (n : Nat)

mutual
inductive Rep (K : PySem.W.Frag) (F : Hp) (as : List Addr) : V → D → Prop
  | non : Rep K F as .non .non
  | bl (b : Bool) : Rep K F as (.bl b) (.bl b)
  | int (i : Int) : Rep K F as (.int i) (.int i)
  | str (x : Str) : Rep K F as (.str x) (.str x)
  | lst {a : Addr} {vs : List V} {ds : List D} : F a = some (.lst vs) → RepL K F as vs ds → Rep K F as (.ref a) (.lst ds)
  | tup {a : Addr} {vs : List V} {ds : List D} : SqT K F a vs → RepL K F as vs ds → Rep K F as (.ref a) (.tup ds)
  | fls {a : Addr} {vs : List V} {ds : List D} : SqL K F a vs → RepL K F as vs ds → Rep K F as (.ref a) (.fls ds)
  | adr {a : Addr} {n : Nat} : as[n]? = some a → Rep K F as (.ref a) (.adr n)
inductive RepL (K : PySem.W.Frag) (F : Hp) (as : List Addr) : List V → List D → Prop
  | nil : RepL K F as [] []
  | cons {v : V} {vs : List V} {d : D} {ds : List D} : Rep K F as v d → RepL K F as vs ds → RepL K F as (v :: vs) (d :: ds)
end

/-- all of F is in G -/
def Sub (F G : Hp) : Prop := ∀ a o, F a = some o → G a = some o
theorem Sub.refl (F : Hp) : Sub F F := fun _ _ h => h
theorem Sub.trans {F G H : Hp} (a : Sub F G) (b : Sub G H) : Sub F H := fun x o h => b x o (a x o h)
theorem Sub.new {F : Hp} {p : Addr} {o : HO} (h : F p = none) : Sub F (upd F p o) := fun a u e => by
  rw [upd_ne (ne_of_none e h)]
  exact e
theorem Sub.rd {F G : Hp} {a : Addr} {u : HO} (e : Sub F G) (h : Rd F a u) : Rd G a u := by
  rcases h with h | ⟨o, h⟩
  · exact .inl (e a _ h)
  · exact .inr ⟨o, e a _ h⟩
theorem Sub.l {K : PySem.W.Frag} {F G : Hp} {a : Addr} {xs : List V} (e : Sub F G) (h : SqL K F a xs) : SqL K G a xs := by
  rcases h with h | h
  · exact .inl (e.rd h)
  · exact .inr h
theorem Sub.t {K : PySem.W.Frag} {F G : Hp} {a : Addr} {xs : List V} (e : Sub F G) (h : SqT K F a xs) : SqT K G a xs := by
  rcases h with h | h
  · exact .inl (e.rd h)
  · exact .inr h
theorem Sub.free {F G : Hp} (e : Sub F G) {p : Addr} (h : G p = none) : F p = none := by
  cases q : F p with
  | none => rfl
  | some o => rw [e p o q] at h; cases h

/-- as is a first part of as' -/
def Pre (as as' : List Addr) : Prop := ∀ (n : Nat) (a : Addr), as[n]? = some a → as'[n]? = some a
theorem Pre.refl (as : List Addr) : Pre as as := fun _ _ h => h
theorem Pre.trans {a b c : List Addr} (x : Pre a b) (y : Pre b c) : Pre a c := fun n p h => y n p (x n p h)
theorem Pre.app (as bs : List Addr) : Pre as (as ++ bs) := fun n a h => by
  rw [List.getElem?_append_left (by
    rcases Nat.lt_or_ge n as.length with q | q
    · exact q
    · rw [List.getElem?_eq_none q] at h; cases h)]
  exact h
theorem Pre.mem {as as' : List Addr} (x : Pre as as') {a : Addr} (h : a ∈ as) : a ∈ as' := by
  obtain ⟨n, hn⟩ := List.getElem?_of_mem h
  exact List.mem_of_getElem? (x n a hn)

section
variable {K : PySem.W.Frag} {F G : Hp} {as bs : List Addr}
mutual
theorem Rep.mono (e : Sub F G) (p : Pre as bs) : ∀ {v : V} {d : D}, Rep K F as v d → Rep K G bs v d
  | _, _, .non => .non
  | _, _, .bl b => .bl b
  | _, _, .int i => .int i
  | _, _, .str x => .str x
  | _, _, .lst h r => .lst (e _ _ h) (RepL.mono e p r)
  | _, _, .tup h r => .tup (e.t h) (RepL.mono e p r)
  | _, _, .fls h r => .fls (e.l h) (RepL.mono e p r)
  | _, _, .adr h => .adr (p _ _ h)
theorem RepL.mono (e : Sub F G) (p : Pre as bs) : ∀ {vs : List V} {ds : List D}, RepL K F as vs ds → RepL K G bs vs ds
  | _, _, .nil => .nil
  | _, _, .cons h r => .cons (Rep.mono e p h) (RepL.mono e p r)
end
theorem RepL.length : ∀ {vs : List V} {ds : List D}, RepL K F as vs ds → vs.length = ds.length
  | _, _, .nil => rfl
  | _, _, .cons _ r => by simp [RepL.length r]
theorem RepL.get : ∀ {vs : List V} {ds : List D} {i : Nat} {d : D}, RepL K F as vs ds → ds[i]? = some d → ∃ v, vs[i]? = some v ∧ Rep K F as v d
  | _, _, _, _, .nil, e => by simp at e
  | _, _, 0, _, .cons h _, e => by
    simp at e
    subst e
    exact ⟨_, rfl, h⟩
  | _, _, i + 1, d, .cons _ r, e => by
    obtain ⟨v, a, b⟩ := RepL.get (i := i) (d := d) r (by simpa using e)
    exact ⟨v, by simpa using a, b⟩
theorem RepL.getV : ∀ {vs : List V} {ds : List D} {i : Nat} {v : V}, RepL K F as vs ds → vs[i]? = some v → ∃ d, ds[i]? = some d ∧ Rep K F as v d
  | _, _, _, _, .nil, e => by simp at e
  | _, _, 0, _, .cons h _, e => by
    simp at e
    subst e
    exact ⟨_, rfl, h⟩
  | _, _, i + 1, d, .cons _ r, e => by
    obtain ⟨v, a, b⟩ := RepL.getV (i := i) (v := d) r (by simpa using e)
    exact ⟨v, by simpa using a, b⟩
theorem RepL.append : ∀ {vs ws : List V} {ds es : List D}, RepL K F as vs ds → RepL K F as ws es → RepL K F as (vs ++ ws) (ds ++ es)
  | _, _, _, _, .nil, s => s
  | _, _, _, _, .cons h r, s => .cons h (RepL.append r s)
theorem RepL.take : ∀ {vs : List V} {ds : List D} (n : Nat), RepL K F as vs ds → RepL K F as (vs.take n) (ds.take n)
  | _, _, 0, _ => .nil
  | _, _, _ + 1, .nil => .nil
  | _, _, n + 1, .cons h r => .cons h (RepL.take n r)
theorem RepL.drop : ∀ {vs : List V} {ds : List D} (n : Nat), RepL K F as vs ds → RepL K F as (vs.drop n) (ds.drop n)
  | _, _, 0, r => r
  | _, _, _ + 1, .nil => .nil
  | _, _, n + 1, .cons _ r => RepL.drop n r
theorem RepL.set {v : V} {d : D} (q : Rep K F as v d) : ∀ {vs : List V} {ds : List D} (i : Nat), RepL K F as vs ds → RepL K F as (vs.set i v) (ds.set i d)
  | _, _, _, .nil => .nil
  | _, _, 0, .cons _ r => .cons q r
  | _, _, i + 1, .cons h r => .cons h (RepL.set q i r)
theorem RepL.erase : ∀ {vs : List V} {ds : List D} (i : Nat), RepL K F as vs ds → RepL K F as (vs.eraseIdx i) (ds.eraseIdx i)
  | _, _, _, .nil => .nil
  | _, _, 0, .cons _ r => r
  | _, _, i + 1, .cons h r => .cons h (RepL.erase i r)
theorem RepL.dropLast {vs : List V} {ds : List D} (h : RepL K F as vs ds) : RepL K F as vs.dropLast ds.dropLast := by
  rw [List.dropLast_eq_take, List.dropLast_eq_take, h.length]
  exact h.take _
theorem RepL.reverse {vs : List V} {ds : List D} (h : RepL K F as vs ds) : RepL K F as vs.reverse ds.reverse := by
  induction ds generalizing vs with
  | nil => cases h; exact .nil
  | cons d ds ih =>
    cases h with
    | cons h r =>
      rw [List.reverse_cons, List.reverse_cons]
      exact (ih r).append (.cons h .nil)
theorem RepL.ints : ∀ {ns : List Int} {vs : List V}, RepL K F as vs (ns.map D.int) → vs = ns.map V.int
  | [], _, h => by cases h; rfl
  | n :: ns, _, h => by
    cases h with
    | cons h r =>
      cases h
      rw [RepL.ints r]
      rfl
theorem RepL.of_ints : ∀ (ns : List Int), RepL K F as (ns.map V.int) (ns.map D.int)
  | [] => .nil
  | n :: ns => .cons (.int n) (RepL.of_ints ns)
theorem RepL.bls : ∀ {ns : List Bool} {vs : List V}, RepL K F as vs (ns.map D.bl) → vs = ns.map V.bl
  | [], _, h => by cases h; rfl
  | n :: ns, _, h => by
    cases h with
    | cons h r =>
      cases h
      rw [RepL.bls r]
      rfl
theorem RepL.strs : ∀ {ns : List Str} {vs : List V}, RepL K F as vs (ns.map D.str) → vs = ns.map V.str
  | [], _, h => by cases h; rfl
  | n :: ns, _, h => by
    cases h with
    | cons h r =>
      cases h
      rw [RepL.strs r]
      rfl
theorem RepL.of_strs : ∀ (ns : List Str), RepL K F as (ns.map V.str) (ns.map D.str)
  | [] => .nil
  | n :: ns => .cons (.str n) (RepL.of_strs ns)
end

/-! ### changing objects -/
inductive MO where
  | lst (xs : List D) | dct (kvs : List (Key × D)) | ins (c : Nat) (fs : List (Str × D))
inductive SV where
  | none | val (d : D) | own (ds : List D)

def RepKV {κ : Type} (K : PySem.W.Frag) (F : Hp) (as : List Addr) : List (κ × V) → List (κ × D) → Prop :=
  Paired fun (p : κ × V) (q : κ × D) => p.1 = q.1 ∧ Rep K F as p.2 q.2
theorem RepKV.mono {κ : Type} {K : PySem.W.Frag} {F G : Hp} {as bs : List Addr} {xs : List (κ × V)} {ys : List (κ × D)} (e : Sub F G) (p : Pre as bs) (h : RepKV K F as xs ys) : RepKV K G bs xs ys :=
  Paired.mapP h fun _ _ q => ⟨q.1, q.2.mono e p⟩

def MoOk (K : PySem.W.Frag) (ct : Nat → Addr) (F : Hp) (as : List Addr) (H : Hp) (a : Addr) : MO → Prop
  | .lst ds => ∃ vs, H a = some (.lst vs) ∧ RepL K F as vs ds
  | .dct kvs => ∃ ps, H a = some (.dK ps) ∧ RepKV K F as ps kvs
  | .ins c fs => ∃ dx ps, H a = some (.ins (ct c) dx ps) ∧ RepKV K F as ps fs
theorem MoOk.some {K : PySem.W.Frag} {ct : Nat → Addr} {F : Hp} {as : List Addr} {H : Hp} {a : Addr} {o : MO} (h : MoOk K ct F as H a o) : ∃ u, H a = .some u := by
  cases o with
  | lst ds => obtain ⟨vs, e, _⟩ := h; exact ⟨_, e⟩
  | dct ds => obtain ⟨vs, e, _⟩ := h; exact ⟨_, e⟩
  | ins c ds => obtain ⟨dx, vs, e, _⟩ := h; exact ⟨_, e⟩
theorem MoOk.mono {K : PySem.W.Frag} {ct : Nat → Addr} {F G : Hp} {as bs : List Addr} {H H' : Hp} {a : Addr} {o : MO} (e : Sub F G) (p : Pre as bs) (k : H' a = H a) (h : MoOk K ct F as H a o) : MoOk K ct G bs H' a o := by
  cases o with
  | lst ds => obtain ⟨vs, q, r⟩ := h; exact ⟨vs, k.trans q, r.mono e p⟩
  | dct ds => obtain ⟨vs, q, r⟩ := h; exact ⟨vs, k.trans q, r.mono e p⟩
  | ins c ds => obtain ⟨dx, vs, q, r⟩ := h; exact ⟨dx, vs, k.trans q, r.mono e p⟩

/-- the addresses of the owned lists -/
def Own (σ : L2.St) (S : List SV) (a : Addr) : Prop := ∃ (i : Nat) (ds : List D), S[i]? = some (SV.own ds) ∧ σ[i]? = some (some (V.ref a))

structure Rel (K : PySem.W.Frag) (ct : Nat → Addr) (F H : Hp) (as : List Addr) (σ : L2.St) (S : List SV) (M : List MO) : Prop where
  sub : Sub F H
  nd : as.Nodup
  len : as.length = M.length
  mo : ∀ (n : Nat) (a : Addr) (o : MO), as[n]? = some a → M[n]? = some o → F a = none ∧ MoOk K ct F as H a o
  slen : σ.length = S.length
  val : ∀ (i : Nat) (d : D), S[i]? = some (SV.val d) → ∃ v, σ[i]? = some (some v) ∧ Rep K F as v d
  own : ∀ (i : Nat) (ds : List D), S[i]? = some (SV.own ds) → ∃ a vs, σ[i]? = some (some (V.ref a)) ∧ H a = some (.lst vs) ∧ RepL K F as vs ds ∧ F a = none ∧ a ∉ as
  sep : ∀ (i j : Nat) (ds es : List D) (a : Addr), S[i]? = some (SV.own ds) → S[j]? = some (SV.own es) → σ[i]? = some (some (V.ref a)) → σ[j]? = some (some (V.ref a)) → i = j

structure Stp (F H : Hp) (as : List Addr) (σ : L2.St) (S : List SV) (F' H' : Hp) (as' : List Addr) (σ' : L2.St) (S' : List SV) : Prop where
  sub : Sub F F'
  pre : Pre as as'
  keep : ∀ a o, H a = some o → a ∉ as → ¬ Own σ S a → H' a = some o
  nofz : ∀ a o, H a = some o → F a = none → ¬ Own σ S a → F' a = none
  new : ∀ a, a ∈ as' → a ∈ as ∨ H a = none
  own : ∀ a, Own σ' S' a → Own σ S a ∨ H a = none
  kept : ∀ a o, H a = some o → ∃ o', H' a = some o'

section
variable {K : PySem.W.Frag} {ct : Nat → Addr} {F H F' H' F2 H2 : Hp} {as as' as2 : List Addr} {σ σ' σ2 : L2.St} {S S' S2 : List SV} {M M' : List MO}
theorem Stp.refl : Stp F H as σ S F H as σ S := ⟨Sub.refl _, Pre.refl _, fun _ _ h _ _ => h, fun _ _ _ h _ => h, fun _ h => .inl h, fun _ h => .inl h, fun _ o h => ⟨o, h⟩⟩
theorem Stp.trans (a : Stp F H as σ S F' H' as' σ' S') (b : Stp F' H' as' σ' S' F2 H2 as2 σ2 S2) : Stp F H as σ S F2 H2 as2 σ2 S2 where
  sub := a.sub.trans b.sub
  pre := a.pre.trans b.pre
  keep := fun x o h n w => b.keep x o (a.keep x o h n w) (fun z => (a.new x z).elim n fun q => by rw [h] at q; cases q) (fun z => (a.own x z).elim w fun q => by rw [h] at q; cases q)
  nofz := fun x o h n w => by
    obtain ⟨o', h'⟩ := a.kept x o h
    exact b.nofz x o' h' (a.nofz x o h n w) (fun z => (a.own x z).elim w fun q => by rw [h] at q; cases q)
  new := fun x z => by
    rcases b.new x z with q | q
    · exact a.new x q
    · cases e : H x with
      | none => exact .inr rfl
      | some o =>
        obtain ⟨o', h'⟩ := a.kept x o e
        rw [q] at h'; cases h'
  own := fun x z => by
    rcases b.own x z with q | q
    · exact a.own x q
    · cases e : H x with
      | none => exact .inr rfl
      | some o =>
        obtain ⟨o', h'⟩ := a.kept x o e
        rw [q] at h'; cases h'
  kept := fun x o h => by
    obtain ⟨o', h'⟩ := a.kept x o h
    exact b.kept x o' h'
theorem no_own {σ : L2.St} {a : Addr} : ¬ Own σ [] a := fun ⟨i, ds, h, _⟩ => by simp at h
/-- a step that knows nothing of the slots, seen with slots -/
theorem Rel.frame (r : Rel K ct F H as σ S M) (r' : Rel K ct F' H' as' [] [] M') (s : Stp F H as [] [] F' H' as' [] []) : Rel K ct F' H' as' σ S M' ∧ Stp F H as σ S F' H' as' σ S := by
  refine ⟨⟨r'.sub, r'.nd, r'.len, r'.mo, r.slen, fun i d h => ?_, fun i ds h => ?_, r.sep⟩, ⟨s.sub, s.pre, fun a o h n _ => s.keep a o h n no_own, fun a o h n _ => s.nofz a o h n no_own, s.new, fun a h => .inl h, s.kept⟩⟩
  · obtain ⟨v, e, q⟩ := r.val i d h
    exact ⟨v, e, q.mono s.sub s.pre⟩
  · obtain ⟨a, vs, e, h1, h2, h3, h4⟩ := r.own i ds h
    exact ⟨a, vs, e, s.keep a _ h1 h4 no_own, h2.mono s.sub s.pre, s.nofz a _ h1 h3 no_own, fun z => (s.new a z).elim h4 fun q => by rw [h1] at q; cases q⟩
theorem Rel.bare (r : Rel K ct F H as σ S M) : Rel K ct F H as [] [] M :=
  ⟨r.sub, r.nd, r.len, r.mo, rfl, fun i d h => by simp at h, fun i d h => by simp at h, fun i j ds es a h => by simp at h⟩
/-- a new object that stays as it is -/
theorem Rel.laid {p : Addr} {o : HO} (r : Rel K ct F H as σ S M) (hp : H p = none) : Rel K ct (upd F p o) (upd H p o) as σ S M ∧ Stp F H as σ S (upd F p o) (upd H p o) as σ S := by
  have hF : F p = none := r.sub.free hp
  refine Rel.frame r ⟨fun a u h => ?_, r.nd, r.len, fun n a u h1 h2 => ?_, rfl, fun i d h => by simp at h, fun i d h => by simp at h, fun i j ds es a h => by simp at h⟩ ⟨Sub.new hF, Pre.refl _, fun a u h _ _ => ?_, fun a u h n _ => ?_, fun a h => .inl h, fun a h => absurd h no_own, fun a u h => ?_⟩
  · by_cases e : a = p
    · subst e; rw [upd_same] at h ⊢; exact h
    · rw [upd_ne e] at h ⊢; exact r.sub a u h
  · obtain ⟨q1, q2⟩ := r.mo n a u h1 h2
    obtain ⟨w, hw⟩ := q2.some
    have e : a ≠ p := ne_of_none hw hp
    exact ⟨by rw [upd_ne e]; exact q1, q2.mono (Sub.new hF) (Pre.refl _) (upd_ne e)⟩
  · rw [upd_ne (ne_of_none h hp)]; exact h
  · rw [upd_ne (ne_of_none h hp)]; exact n
  · exact ⟨u, by rw [upd_ne (ne_of_none h hp)]; exact h⟩
/-- a value to a slot -/
theorem Rel.set {i : Nat} {v : V} {d : D} (r : Rel K ct F H as σ S M) (q : Rep K F as v d) : Rel K ct F H as (σ.set i (some v)) (S.set i (.val d)) M ∧ Stp F H as σ S F H as (σ.set i (some v)) (S.set i (.val d)) := by
  have sub : ∀ j x, (S.set i (.val d))[j]? = some (.own x) → j ≠ i ∧ S[j]? = some (.own x) := fun j x h => by
    by_cases e : i = j
    · subst e
      rcases Nat.lt_or_ge i S.length with z | z
      · rw [List.getElem?_set_self z] at h; cases h
      · rw [List.getElem?_eq_none (by simpa using z)] at h; cases h
    · rw [List.getElem?_set_ne e] at h
      exact ⟨fun w => e w.symm, h⟩
  have sσ : ∀ {j : Nat}, j ≠ i → (σ.set i (some v))[j]? = σ[j]? := fun h => List.getElem?_set_ne (fun w => h w.symm)
  refine ⟨⟨r.sub, r.nd, r.len, r.mo, by simp [r.slen], fun j x h => ?_, fun j x h => ?_, fun j k x y a h1 h2 h3 h4 => ?_⟩, ⟨Sub.refl _, Pre.refl _, fun _ _ h _ _ => h, fun _ _ _ h _ => h, fun _ h => .inl h, fun a h => .inl ?_, fun _ o h => ⟨o, h⟩⟩⟩
  · by_cases e : j = i
    · subst e
      rcases Nat.lt_or_ge j S.length with z | z
      · rw [List.getElem?_set_self z] at h
        cases h
        exact ⟨v, List.getElem?_set_self (by rw [r.slen]; exact z), q⟩
      · rw [List.getElem?_eq_none (by simpa using z)] at h; cases h
    · rw [List.getElem?_set_ne (fun w => e w.symm)] at h
      rw [sσ e]
      exact r.val j x h
  · obtain ⟨e, h⟩ := sub j x h
    rw [sσ e]
    exact r.own j x h
  · obtain ⟨e1, h1⟩ := sub j x h1
    obtain ⟨e2, h2⟩ := sub k y h2
    rw [sσ e1] at h3
    rw [sσ e2] at h4
    exact r.sep j k x y a h1 h2 h3 h4
  · obtain ⟨j, x, h1, h2⟩ := h
    obtain ⟨e, h1⟩ := sub j x h1
    rw [sσ e] at h2
    exact ⟨j, x, h1, h2⟩
/-- a new list to a slot that owns it: seen from (F0 H0 ..), where it was not yet -/
theorem Rel.setOwn {i : Nat} {p : Addr} {vs : List V} {ds : List D} {F0 H0 : Hp} {as0 : List Addr} {S0 : List SV} (r : Rel K ct F H as σ S M) (s : Stp F0 H0 as0 σ S0 F H as σ S) (hi : i < S.length) (h0 : H0 p = none) (hp : H p = some (.lst vs)) (hF : F p = none) (ha : p ∉ as) (ho : ¬ Own σ S p) (q : RepL K F as vs ds) :
    Rel K ct F H as (σ.set i (some (V.ref p))) (S.set i (.own ds)) M ∧ Stp F0 H0 as0 σ S0 F H as (σ.set i (some (V.ref p))) (S.set i (.own ds)) := by
  have hiσ : i < σ.length := by rw [r.slen]; exact hi
  have sS : ∀ {j : Nat}, j ≠ i → (S.set i (.own ds))[j]? = S[j]? := fun h => List.getElem?_set_ne (fun w => h w.symm)
  have sσ : ∀ {j : Nat}, j ≠ i → (σ.set i (some (V.ref p)))[j]? = σ[j]? := fun h => List.getElem?_set_ne (fun w => h w.symm)
  have eS : (S.set i (.own ds))[i]? = some (.own ds) := List.getElem?_set_self hi
  have eσ : (σ.set i (some (V.ref p)))[i]? = some (some (V.ref p)) := List.getElem?_set_self hiσ
  refine ⟨⟨r.sub, r.nd, r.len, r.mo, by simp [r.slen], fun j x h => ?_, fun j x h => ?_, fun j k x y a h1 h2 h3 h4 => ?_⟩, ⟨s.sub, s.pre, s.keep, s.nofz, s.new, fun a h => ?_, s.kept⟩⟩
  · by_cases e : j = i
    · subst e; rw [eS] at h; cases h
    · rw [sS e] at h
      rw [sσ e]
      exact r.val j x h
  · by_cases e : j = i
    · subst e
      rw [eS] at h
      cases h
      exact ⟨p, vs, eσ, hp, q, hF, ha⟩
    · rw [sS e] at h
      rw [sσ e]
      exact r.own j x h
  · by_cases e1 : j = i
    · by_cases e2 : k = i
      · rw [e1, e2]
      · subst e1
        rw [eσ] at h3
        cases h3
        rw [sS e2] at h2
        rw [sσ e2] at h4
        exact absurd ⟨k, y, h2, h4⟩ ho
    · by_cases e2 : k = i
      · subst e2
        rw [eσ] at h4
        cases h4
        rw [sS e1] at h1
        rw [sσ e1] at h3
        exact absurd ⟨j, x, h1, h3⟩ ho
      · rw [sS e1] at h1
        rw [sσ e1] at h3
        rw [sS e2] at h2
        rw [sσ e2] at h4
        exact r.sep j k x y a h1 h2 h3 h4
  · obtain ⟨j, x, h1, h2⟩ := h
    by_cases e : j = i
    · subst e
      rw [eσ] at h2
      cases h2
      exact .inr h0
    · rw [sS e] at h1
      rw [sσ e] at h2
      exact s.own a ⟨j, x, h1, h2⟩
/-- an owned list gets another content -/
theorem Rel.updOwn {i : Nat} {a : Addr} {us vs : List V} {cs ds : List D} (r : Rel K ct F H as σ S M) (hS : S[i]? = some (.own cs)) (hσ : σ[i]? = some (some (V.ref a))) (hH : H a = some (.lst us)) (q : RepL K F as vs ds) :
    Rel K ct F (upd H a (.lst vs)) as σ (S.set i (.own ds)) M ∧ Stp F H as σ S F (upd H a (.lst vs)) as σ (S.set i (.own ds)) := by
  obtain ⟨a', us', e1, e2, e3, e4, e5⟩ := r.own i cs hS
  rw [hσ] at e1
  cases e1
  have hi : i < S.length := by
    rcases Nat.lt_or_ge i S.length with z | z
    · exact z
    · rw [List.getElem?_eq_none z] at hS; cases hS
  have sS : ∀ {j : Nat}, j ≠ i → (S.set i (.own ds))[j]? = S[j]? := fun h => List.getElem?_set_ne (fun w => h w.symm)
  have eS : (S.set i (.own ds))[i]? = some (.own ds) := List.getElem?_set_self hi
  refine ⟨⟨fun b o h => ?_, r.nd, r.len, fun n b o h1 h2 => ?_, by simp [r.slen], fun j x h => ?_, fun j x h => ?_, fun j k x y b h1 h2 h3 h4 => ?_⟩, ⟨Sub.refl _, Pre.refl _, fun b o h n w => ?_, fun b o h n w => n, fun _ h => .inl h, fun b h => .inl ?_, fun b o h => ?_⟩⟩
  · rw [upd_ne (ne_of_none h e4)]; exact r.sub b o h
  · obtain ⟨q1, q2⟩ := r.mo n b o h1 h2
    have ne : b ≠ a := fun z => e5 (z ▸ List.mem_of_getElem? h1)
    exact ⟨q1, q2.mono (Sub.refl _) (Pre.refl _) (upd_ne ne)⟩
  · by_cases e : j = i
    · subst e; rw [eS] at h; cases h
    · rw [sS e] at h
      exact r.val j x h
  · by_cases e : j = i
    · subst e
      rw [eS] at h
      cases h
      exact ⟨a, vs, hσ, upd_same, q, e4, e5⟩
    · rw [sS e] at h
      obtain ⟨b, ws, f1, f2, f3, f4, f5⟩ := r.own j x h
      have ne : b ≠ a := fun z => e (r.sep j i x cs b h hS f1 (z ▸ hσ))
      exact ⟨b, ws, f1, by rw [upd_ne ne]; exact f2, f3, f4, f5⟩
  · have back : ∀ {j : Nat} {x : List D}, (S.set i (.own ds))[j]? = some (.own x) → ∃ x', S[j]? = some (.own x') := fun {j x} h => by
      by_cases e : j = i
      · subst e; exact ⟨cs, hS⟩
      · rw [sS e] at h; exact ⟨x, h⟩
    obtain ⟨x', h1⟩ := back h1
    obtain ⟨y', h2⟩ := back h2
    exact r.sep j k x' y' b h1 h2 h3 h4
  · have ne : b ≠ a := fun z => w ⟨i, cs, hS, z ▸ hσ⟩
    rw [upd_ne ne]; exact h
  · obtain ⟨j, x, h1, h2⟩ := h
    by_cases e : j = i
    · subst e
      exact ⟨j, cs, hS, h2⟩
    · rw [sS e] at h1
      exact ⟨j, x, h1, h2⟩
  · by_cases e : b = a
    · subst e; exact ⟨_, upd_same⟩
    · exact ⟨o, by rw [upd_ne e]; exact h⟩
/-- an owned list is given away: it stays as it is from now on -/
theorem Rel.freeze {i : Nat} {cs : List D} (r : Rel K ct F H as σ S M) (hS : S[i]? = some (.own cs)) :
    ∃ v F', σ[i]? = some (some v) ∧ Rel K ct F' H as σ (S.set i (.val (.lst cs))) M ∧ Stp F H as σ S F' H as σ (S.set i (.val (.lst cs))) ∧ Rep K F' as v (.lst cs) := by
  obtain ⟨a, us, hσ, hH, e3, e4, e5⟩ := r.own i cs hS
  have hi : i < S.length := by
    rcases Nat.lt_or_ge i S.length with z | z
    · exact z
    · rw [List.getElem?_eq_none z] at hS; cases hS
  have sS : ∀ {j : Nat}, j ≠ i → (S.set i (.val (.lst cs)))[j]? = S[j]? := fun h => List.getElem?_set_ne (fun w => h w.symm)
  have eS : (S.set i (.val (.lst cs)))[i]? = some (.val (.lst cs)) := List.getElem?_set_self hi
  have sF : Sub F (upd F a (.lst us)) := Sub.new e4
  have rp : Rep K (upd F a (.lst us)) as (.ref a) (.lst cs) := .lst upd_same (e3.mono sF (Pre.refl _))
  have bk : ∀ {j : Nat} {x : List D}, (S.set i (.val (.lst cs)))[j]? = some (.own x) → j ≠ i ∧ S[j]? = some (.own x) := fun {j x} h => by
    by_cases e : j = i
    · subst e; rw [eS] at h; cases h
    · rw [sS e] at h; exact ⟨e, h⟩
  refine ⟨.ref a, upd F a (.lst us), hσ, ⟨fun b o h => ?_, r.nd, r.len, fun n b o h1 h2 => ?_, by simp [r.slen], fun j x h => ?_, fun j x h => ?_, fun j k x y b h1 h2 h3 h4 => ?_⟩, ⟨sF, Pre.refl _, fun b o h n w => h, fun b o h n w => ?_, fun _ h => .inl h, fun b h => .inl ?_, fun b o h => ⟨o, h⟩⟩, rp⟩
  · by_cases e : b = a
    · subst e; rw [upd_same] at h; cases h; exact hH
    · rw [upd_ne e] at h; exact r.sub b o h
  · obtain ⟨q1, q2⟩ := r.mo n b o h1 h2
    have ne : b ≠ a := fun z => e5 (z ▸ List.mem_of_getElem? h1)
    exact ⟨by rw [upd_ne ne]; exact q1, q2.mono sF (Pre.refl _) rfl⟩
  · by_cases e : j = i
    · subst e; rw [eS] at h; cases h
      exact ⟨.ref a, hσ, rp⟩
    · rw [sS e] at h
      obtain ⟨v, f1, f2⟩ := r.val j x h
      exact ⟨v, f1, f2.mono sF (Pre.refl _)⟩
  · obtain ⟨e, h⟩ := bk h
    obtain ⟨b, ws, f1, f2, f3, f4, f5⟩ := r.own j x h
    have ne : b ≠ a := fun z => e (r.sep j i x cs b h hS f1 (z ▸ hσ))
    exact ⟨b, ws, f1, f2, f3.mono sF (Pre.refl _), by rw [upd_ne ne]; exact f4, f5⟩
  · exact r.sep j k x y b (bk h1).2 (bk h2).2 h3 h4
  · have ne : b ≠ a := fun z => w ⟨i, cs, hS, z ▸ hσ⟩
    rw [upd_ne ne]; exact n
  · obtain ⟨j, x, h1, h2⟩ := h
    exact ⟨j, x, (bk h1).2, h2⟩
/-- a changing object changes -/
theorem Rel.updM {n : Nat} {a : Addr} {mo mo' : MO} {ho : HO} (r : Rel K ct F H as σ S M) (ha : as[n]? = some a) (hM : M[n]? = some mo) (hn : MoOk K ct F as (upd H a ho) a mo') :
    Rel K ct F (upd H a ho) as σ S (M.set n mo') ∧ Stp F H as σ S F (upd H a ho) as σ S := by
  obtain ⟨q1, q2⟩ := r.mo n a mo ha hM
  have hmem : a ∈ as := List.mem_of_getElem? ha
  have hnl : n < M.length := by
    rcases Nat.lt_or_ge n M.length with z | z
    · exact z
    · rw [List.getElem?_eq_none z] at hM; cases hM
  refine ⟨⟨fun b o h => ?_, r.nd, by simp [r.len], fun m b o h1 h2 => ?_, r.slen, r.val, fun j x h => ?_, r.sep⟩, ⟨Sub.refl _, Pre.refl _, fun b o h nn w => ?_, fun b o h nn w => nn, fun _ h => .inl h, fun b h => .inl h, fun b o h => ?_⟩⟩
  · rw [upd_ne (ne_of_none h q1)]; exact r.sub b o h
  · by_cases e : m = n
    · subst e
      rw [List.getElem?_set_self hnl] at h2
      cases h2
      rw [ha] at h1
      cases h1
      exact ⟨q1, hn⟩
    · rw [List.getElem?_set_ne (fun w => e w.symm)] at h2
      obtain ⟨f1, f2⟩ := r.mo m b o h1 h2
      have ne : b ≠ a := fun z => e (nd_ix r.nd h1 (z ▸ ha))
      exact ⟨f1, f2.mono (Sub.refl _) (Pre.refl _) (upd_ne ne)⟩
  · obtain ⟨b, ws, f1, f2, f3, f4, f5⟩ := r.own j x h
    have ne : b ≠ a := fun z => f5 (z ▸ hmem)
    exact ⟨b, ws, f1, by rw [upd_ne ne]; exact f2, f3, f4, f5⟩
  · have ne : b ≠ a := fun z => nn (z ▸ hmem)
    rw [upd_ne ne]; exact h
  · by_cases e : b = a
    · subst e; exact ⟨_, upd_same⟩
    · exact ⟨o, by rw [upd_ne e]; exact h⟩
/-- a new object becomes a changing one: seen from (F0 H0 ..), where it was not yet -/
theorem Rel.newM {p : Addr} {mo : MO} {F0 H0 : Hp} {as0 : List Addr} {S0 : List SV} {σ0 : L2.St} (r : Rel K ct F H as σ S M) (s : Stp F0 H0 as0 σ0 S0 F H as σ S) (h0 : H0 p = none) (hF : F p = none) (ha : p ∉ as) (ho : ¬ Own σ S p) (hm : MoOk K ct F as H p mo) :
    Rel K ct F H (as ++ [p]) σ S (M ++ [mo]) ∧ Stp F0 H0 as0 σ0 S0 F H (as ++ [p]) σ S := by
  have pr : Pre as (as ++ [p]) := Pre.app _ _
  refine ⟨⟨r.sub, ?_, by simp [r.len], fun n b o h1 h2 => ?_, r.slen, fun j x h => ?_, fun j x h => ?_, r.sep⟩, ⟨s.sub, s.pre.trans pr, s.keep, s.nofz, fun b h => ?_, s.own, s.kept⟩⟩
  · rw [List.nodup_append]
    exact ⟨r.nd, by simp, fun x hx y hy e => ha (by rw [List.mem_singleton] at hy; subst hy; subst e; exact hx)⟩
  · by_cases e : n < as.length
    · rw [List.getElem?_append_left e] at h1
      rw [List.getElem?_append_left (by rw [← r.len]; exact e)] at h2
      obtain ⟨f1, f2⟩ := r.mo n b o h1 h2
      exact ⟨f1, f2.mono (Sub.refl _) pr rfl⟩
    · have e' : n = as.length := by
        have : n < (as ++ [p]).length := by
          rcases Nat.lt_or_ge n (as ++ [p]).length with z | z
          · exact z
          · rw [List.getElem?_eq_none z] at h1; cases h1
        simp at this
        omega
      subst e'
      rw [List.getElem?_append_right (Nat.le_refl _), Nat.sub_self] at h1
      rw [List.getElem?_append_right (by rw [r.len]; exact Nat.le_refl _), r.len, Nat.sub_self] at h2
      cases h1
      cases h2
      exact ⟨hF, hm.mono (Sub.refl _) pr rfl⟩
  · obtain ⟨v, f1, f2⟩ := r.val j x h
    exact ⟨v, f1, f2.mono (Sub.refl _) pr⟩
  · obtain ⟨b, ws, f1, f2, f3, f4, f5⟩ := r.own j x h
    refine ⟨b, ws, f1, f2, f3.mono (Sub.refl _) pr, f4, fun z => ?_⟩
    rcases List.mem_append.mp z with z | z
    · exact f5 z
    · rw [List.mem_singleton] at z
      subst z
      exact ho ⟨j, x, h, f1⟩
  · rcases List.mem_append.mp h with z | z
    · exact s.new b z
    · rw [List.mem_singleton] at z
      subst z
      exact .inr h0
end
end DL

end
section
/-! DB: the IR of the Python subset, and its meaning as functions. -/
namespace DL
open PySem PySem.Spec L2

/-! ### the IR -/
inductive BOp where
  | add | sub | mul | fdiv | mod | pow
  deriving DecidableEq
inductive COp where
  | eq | ne | lt | le | gt | ge | is | isnot | isin | notin
  deriving DecidableEq
/-- built-in functions and types, called by name -/
inductive Bi where
  | len | list | tuple | sum | isint | isbool | isstr | islist | istuple | abs | int | str
  deriving DecidableEq
inductive XG where
  | nm (i : Nat) | tup (is : List Nat)
mutual
inductive XE where
  | var (i : Nat)
  | glob (x : String)
  | int (i : Int) | str (s : Str) | bl (b : Bool) | non
  | bin (op : BOp) (a b : XE)
  | neg (a : XE)
  | cmp (op : COp) (a b : XE)
  | chain (op op' : COp) (a b c : XE)
  | no (a : XE)
  | and (a b : XE)
  | or (a b : XE)
  | ite (c a b : XE)
  | tup (es : List XE)
  | lst (es : List XE)
  | idx (a b : XE)
  | idxO (i : Nat) (b : XE)
  | slc (a : XE) (lo hi : Option XE)
  | rev (a : XE)
  | call (f : String) (es : List XE)
  | bi (p : Bi) (e : XE)
  | lenO (i : Nat)
  | lrng (a : XE)
  | ndx (a b : XE)
  | popO (i : Nat) (e : XE)
  | comp (g : XG) (it : XI) (tests : Option XE) (elt : XE) (own : List (Str × Nat))
inductive XI where
  | seq (e : XE) | rng1 (e : XE) | rng2 (a b : XE)
end
inductive XS where
  | asg (g : XG) (e : XE)
  | setO (i : Nat) (e : XE)
  | setM (i : Nat) (e : XE)
  | app (i : Nat) (e : XE)
  | appM (a e : XE)
  | drop (e : XE)
  | ret (e : XE)
  | retN
  | ife (c : XE) (a b : List XS)
  | loop (g : XG) (it : XI) (body : List XS)
  | wh (c : XE) (body : List XS)
  | brk | cnt | pass
  | put (a i e : XE)
  | aug (i : Nat) (op : BOp) (e : XE)

/-! ### meaning: operations -/
abbrev DS := List SV × List MO
/-- a value, or a list that was just made -/
inductive R where
  | v (d : D) | fl (ds : List D)
def R.d : R → D
  | .v d => d
  | .fl ds => .lst ds

mutual
def D.py : D → PyData
  | .non => .none | .bl b => .bool b | .int i => .int i | .str s => .str s
  | .lst xs => .list (D.pyL xs) | .tup xs => .tuple (D.pyL xs) | .fls xs => .list (D.pyL xs) | .adr _ => .none
def D.pyL : List D → List PyData
  | [] => []
  | x :: xs => x.py :: D.pyL xs
end
mutual
/-- no changing object in it -/
def D.clean : D → Bool
  | .non => true | .bl _ => true | .int _ => true | .str _ => true
  | .lst xs => D.cleanL xs | .tup xs => D.cleanL xs | .fls xs => D.cleanL xs | .adr _ => false
def D.cleanL : List D → Bool
  | [] => true
  | x :: xs => x.clean && D.cleanL xs
end
def eqOk (d : D) : Bool := d.clean && SeqAt.shaped d.py
/-- the flat items of `in` -/
def D.flat : D → Bool
  | .non => true | .bl _ => true | .int _ => true | .str _ => true
  | _ => false
def D.toV : D → V
  | .non => .non | .bl b => .bl b | .int i => .int i | .str s => .str s
  | _ => .non
def eqD (d e : D) : Option Bool :=
  if d.flat && e.flat && scal d.toV e.toV then some (decide (d.toV = e.toV)) else
  if eqOk d && eqOk e then some (PyData.eqv d.py e.py) else none

def big : Nat := 1000000000000

def binD : BOp → D → D → Option R
  | .add, .int i, .int j => some (.v (.int (i + j)))
  | .add, .str x, .str y => if x.length + y.length ≤ sizeLine then some (.v (.str (x ++ y))) else none
  | .add, .tup xs, .tup ys => if xs.length + ys.length ≤ sizeLine then some (.v (.tup (xs ++ ys))) else none
  | .add, .lst xs, .lst ys => if xs.length + ys.length ≤ sizeLine then some (.fl (xs ++ ys)) else none
  | .sub, .int i, .int j => some (.v (.int (i - j)))
  | .mul, .int i, .int j => if i.natAbs.log2 + j.natAbs.log2 < 1000000 then some (.v (.int (i * j))) else none
  | .fdiv, .int i, .int j => if j ≠ 0 ∧ j.natAbs < 1073741824 then some (.v (.int (i.fdiv j))) else none
  | .mod, .int i, .int j => if j ≠ 0 then some (.v (.int (i.fmod j))) else none
  | .pow, .int i, .int j => if 0 ≤ j ∧ j ≤ 1000000 ∧ i.natAbs < 2 ^ 64 then some (.v (.int (i ^ j.toNat))) else none
  | _, _, _ => none

def D.seq : D → Option (List D)
  | .lst xs => some xs
  | .tup xs => some xs
  | .fls xs => some xs
  | _ => none
def inD (d e : D) : Option Bool :=
  match e.seq with
  | some xs => if d.flat && xs.all D.flat then some (inV d.toV (xs.map D.toV)) else none
  | none => match d, e with
    | .str x, .str y => some (!(Builtin.Str.occurrences y x 0 y.length 1).isEmpty)
    | _, _ => none
def D.isNon : D → Bool
  | .non => true
  | _ => false
def cmpD : COp → D → D → Option Bool
  | .eq, d, e => eqD d e
  | .ne, d, e => (eqD d e).map (!·)
  | .lt, .int i, .int j => some (decide (i < j))
  | .le, .int i, .int j => some (decide (i ≤ j))
  | .gt, .int i, .int j => some (decide (j < i))
  | .ge, .int i, .int j => some (decide (j ≤ i))
  | .is, d, .non => some d.isNon
  | .isnot, d, .non => some (!d.isNon)
  | .is, .bl a, .bl b => some (decide (a = b))
  | .isnot, .bl a, .bl b => some (!decide (a = b))
  | .isin, d, e => inD d e
  | .notin, d, e => (inD d e).map (!·)
  | _, _, _ => none

def idxD (M : List MO) : D → D → Option D
  | .lst xs, .int i => atI xs i
  | .tup xs, .int i => atI xs i
  | .fls xs, .int i => atI xs i
  | .str z, .int i => if z.length ≤ sizeLine then (atI z.cps.toList i).map fun c => .str ⟨#[c]⟩ else none
  | .adr n, .int i => match M[n]? with
    | some (.lst xs) => atI xs i
    | _ => none
  | _, _ => none

def cutD (xs : List D) (lo hi : Option Int) : List D := (xs.drop (HT.sIx xs.length 0 lo)).take (HT.sIx xs.length xs.length hi - HT.sIx xs.length 0 lo)
def slcD : D → Option Int → Option Int → Option R
  | .lst xs, lo, hi => some (.fl (cutD xs lo hi))
  | .fls xs, lo, hi => some (.fl (cutD xs lo hi))
  | .str z, lo, hi => if z.length ≤ sizeLine then some (.v (.str (cutS z lo hi))) else none
  | .tup xs, lo, hi => some (.v (.tup (cutD xs lo hi)))
  | _, _, _ => none
def revD : D → Option R
  | .lst xs => some (.fl xs.reverse)
  | .fls xs => some (.fl xs.reverse)
  | _ => none

def intsD : List D → Option (List Int)
  | [] => some []
  | .int i :: r => (intsD r).map (i :: ·)
  | _ :: _ => none
def biD (M : List MO) : Bi → D → Option R
  | .len, .lst xs => some (.v (.int xs.length))
  | .len, .tup xs => some (.v (.int xs.length))
  | .len, .fls xs => some (.v (.int xs.length))
  | .len, .str z => if z.length ≤ sizeLine then some (.v (.int z.length)) else none
  | .len, .adr n => match M[n]? with
    | some (.lst xs) => some (.v (.int xs.length))
    | _ => none
  | .list, .lst xs => some (.fl xs)
  | .list, .tup xs => some (.fl xs)
  | .list, .fls xs => some (.fl xs)
  | .tuple, .lst xs => some (.v (.tup xs))
  | .tuple, .fls xs => some (.v (.tup xs))
  | .tuple, .tup xs => some (.v (.tup xs))
  | .sum, .lst xs => (intsD xs).map fun ns => .v (.int ns.sum)
  | .isint, .int _ => some (.v (.bl true))
  | .isint, .bl _ => some (.v (.bl true))
  | .isint, .adr _ => none
  | .isint, _ => some (.v (.bl false))
  | .isbool, .bl _ => some (.v (.bl true))
  | .isbool, .adr _ => none
  | .isbool, _ => some (.v (.bl false))
  | .isstr, .str _ => some (.v (.bl true))
  | .isstr, .adr _ => none
  | .isstr, _ => some (.v (.bl false))
  | .islist, .lst _ => some (.v (.bl true))
  | .islist, .fls _ => some (.v (.bl true))
  | .islist, .adr _ => none
  | .islist, _ => some (.v (.bl false))
  | .istuple, .tup _ => some (.v (.bl true))
  | .istuple, .adr _ => none
  | .istuple, _ => some (.v (.bl false))
  | .abs, .int i => some (.v (.int (if i < 0 then -i else i)))
  | .int, .int i => some (.v (.int i))
  | .str, .int i => if i.natAbs.log2 < 1920 then some (.v (.str (toString i))) else none
  | _, _ => none
/-- xs.index(y): the first place, of flat things -/
def ndxAt (y : V) : List V → Nat → Option Nat
  | [], _ => none
  | x :: r, j => if eqV x y then some j else ndxAt y r (j + 1)
def ndxD : D → D → Option D
  | .lst xs, y => if y.flat && xs.all D.flat then (ndxAt y.toV (xs.map D.toV) 0).map fun (j : Nat) => D.int (j : Int) else none
  | _, _ => none
def truD (M : List MO) : D → Option Bool
  | .non => some false
  | .bl b => some b
  | .int i => some (i != 0)
  | .str z => if z.length ≤ sizeLine then some ((z.length : Int) != 0) else none
  | .lst xs => some (!xs.isEmpty)
  | .tup xs => some (!xs.isEmpty)
  | .fls xs => some (!xs.isEmpty)
  | .adr n => match M[n]? with
    | some (.lst xs) => some (!xs.isEmpty)
    | some (.dct xs) => some (!xs.isEmpty)
    | _ => none

def readV (i : Nat) (S : List SV) : Option (D × List SV) :=
  match S[i]? with
  | some (.val d) => some (d, S)
  | some (.own ds) => some (.lst ds, S.set i (.val (.lst ds)))
  | _ => none
def readO (i : Nat) (S : List SV) : Option (List D) :=
  match S[i]? with
  | some (.own ds) => some ds
  | _ => none
def setMany : List Nat → List D → List SV → Option (List SV)
  | [], [], S => some S
  | i :: is, d :: ds, S => setMany is ds (S.set i (.val d))
  | _, _, _ => none
def setG : XG → D → List SV → Option (List SV)
  | .nm i, d, S => some (S.set i (.val d))
  | .tup is, .tup ds, S => setMany is ds S
  | .tup _, _, _ => none
def wipeD (S : List SV) : List Nat → List SV
  | [] => S
  | v :: vs => (wipeD S vs).set v .none
def restD (S T : List SV) : List Nat → List SV
  | [] => T
  | v :: vs => (restD S T vs).set v (S.getD v .none)

/-! ### loops, by what their parts mean -/
def compD (st : D → List SV → Option (List SV)) (test : DS → Option (Bool × DS)) (elt : DS → Option (D × DS)) (vs : List Nat) : List D → DS → List D → Option (List D × DS)
  | [], s, acc => some (acc, s)
  | x :: xs, s, acc => (st x s.1).bind fun S1 => (test (S1, s.2)).bind fun q => match q with
    | (true, s2) => (elt s2).bind fun (d, s3) => if acc.length < sizeLine then compD st test elt vs xs (wipeD s3.1 vs, s3.2) (acc ++ [d]) else none
    | (false, s2) => compD st test elt vs xs (wipeD s2.1 vs, s2.2) acc
inductive Out where
  | nx | bk | ct | rt (d : D)
def forD (st : D → List SV → Option (List SV)) (body : DS → Option (Out × DS)) : List D → DS → Option (Out × DS)
  | [], s => some (.nx, s)
  | x :: xs, s => (st x s.1).bind fun S1 => (body (S1, s.2)).bind fun q => match q with
    | (.nx, s2) => forD st body xs s2
    | (.ct, s2) => forD st body xs s2
    | (.bk, s2) => some (.nx, s2)
    | (.rt d, s2) => some (.rt d, s2)
def whD (c : DS → Option (Bool × DS)) (body : DS → Option (Out × DS)) : Nat → DS → Option (Out × DS)
  | 0, _ => none
  | n + 1, s => (c s).bind fun q => match q with
    | (false, s1) => some (.nx, s1)
    | (true, s1) => (body s1).bind fun q => match q with
      | (.nx, s2) => whD c body n s2
      | (.ct, s2) => whD c body n s2
      | (.bk, s2) => some (.nx, s2)
      | (.rt d, s2) => some (.rt d, s2)

abbrev CL := String → List D → List MO → Option (D × List MO)
def rngL (lo : Int) (n : Nat) : List D := (List.range n).map fun i => D.int (lo + (i : Nat))
def smallI (i : Int) : Bool := decide (-(2 ^ 62) ≤ i) && decide (i < 2 ^ 62)

/-! ### expressions -/
def isBoolOp : XE → Bool
  | .and _ _ => true
  | .or _ _ => true
  | .no _ => true
  | _ => false
mutual
def den (cl : CL) : XE → DS → Option (R × DS)
  | .var i, s => (readV i s.1).map fun (d, S) => (.v d, (S, s.2))
  | .glob x, s => (cl x [] s.2).map fun (d, M) => (.v d, (s.1, M))
  | .int i, s => some (.v (.int i), s)
  | .str x, s => some (.v (.str x), s)
  | .bl b, s => some (.v (.bl b), s)
  | .non, s => some (.v .non, s)
  | .bin op a b, s => (den cl a s).bind fun (x, s1) => (den cl b s1).bind fun (y, s2) => (binD op x.d y.d).map fun z => (z, s2)
  | .neg a, s => (den cl a s).bind fun (x, s1) => match x.d with
    | .int i => some (.v (.int (-i)), s1)
    | _ => none
  | .cmp op a b, s => (den cl a s).bind fun (x, s1) => (den cl b s1).bind fun (y, s2) => (cmpD op x.d y.d).map fun z => (.v (.bl z), s2)
  | .chain op op' a b c, s => (den cl a s).bind fun (x, s1) => (den cl b s1).bind fun (y, s2) => (cmpD op x.d y.d).bind fun k => match k with
    | true => (den cl c s2).bind fun (z, s3) => (cmpD op' y.d z.d).map fun w => (.v (.bl w), s3)
    | false => some (.v (.bl false), s2)
  | .no a, s => (den cl a s).bind fun (x, s1) => (truD s1.2 x.d).map fun k => (.v (.bl (!k)), s1)
  | .and a b, s => (den cl a s).bind fun (x, s1) => (truD s1.2 x.d).bind fun k => match k with
    | true => (den cl b s1).map fun (z, s2) => (.v z.d, s2)
    | false => some (.v x.d, s1)
  | .or a b, s => (den cl a s).bind fun (x, s1) => (truD s1.2 x.d).bind fun k => match k with
    | false => (den cl b s1).map fun (z, s2) => (.v z.d, s2)
    | true => some (.v x.d, s1)
  | .ite c a b, s => (den cl c s).bind fun (x, s1) => (truD s1.2 x.d).bind fun k => match k with
    | true => (den cl a s1).map fun (z, s2) => (.v z.d, s2)
    | false => (den cl b s1).map fun (z, s2) => (.v z.d, s2)
  | .tup es, s => (denL cl es s).bind fun (ds, s1) => if ds.length ≤ sizeLine then some (.v (.tup ds), s1) else none
  | .lst es, s => (denL cl es s).bind fun (ds, s1) => if ds.length ≤ sizeLine then some (.fl ds, s1) else none
  | .idx a b, s => (den cl a s).bind fun (x, s1) => (den cl b s1).bind fun (y, s2) => (idxD s2.2 x.d y.d).map fun z => (.v z, s2)
  | .idxO i b, s => (readO i s.1).bind fun _ => (den cl b s).bind fun (y, s1) => (readO i s1.1).bind fun xs => (idxD [] (.lst xs) y.d).map fun z => (.v z, s1)
  | .slc a lo hi, s => (den cl a s).bind fun (x, s1) => (denO cl lo s1).bind fun (l, s2) => (denO cl hi s2).bind fun (h, s3) => (slcD x.d l h).map fun z => (z, s3)
  | .rev a, s => (den cl a s).bind fun (x, s1) => (revD x.d).map fun z => (z, s1)
  | .call f es, s => (denL cl es s).bind fun (ds, s1) => (cl f ds s1.2).map fun (d, M) => (.v d, (s1.1, M))
  | .bi p e, s => (den cl e s).bind fun (x, s1) => (biD s1.2 p x.d).map fun z => (z, s1)
  | .lenO i, s => (readO i s.1).map fun xs => (.v (.int xs.length), s)
  | .lrng a, s => (den cl a s).bind fun (x, s1) => match x.d with
    | .int n => if -(2 ^ 62) ≤ n ∧ n ≤ 2 ^ 24 then some (.fl (rngL 0 n.toNat), s1) else none
    | _ => none
  | .ndx a b, s => (den cl a s).bind fun (x, s1) => (den cl b s1).bind fun (y, s2) => (ndxD x.d y.d).map fun z => (.v z, s2)
  | .popO i e, s => (readO i s.1).bind fun _ => (den cl e s).bind fun (x, s1) => (readO i s1.1).bind fun xs => match x.d with
    | .int k => if smallI k then (seqIndex? k xs.length).bind fun j => xs[j]?.map fun d => (.v d, (s1.1.set i (.own (xs.eraseIdx j)), s1.2)) else none
    | _ => none
  | .comp g it t elt own, s => (denI cl it s).bind fun (xs, s1) =>
      (compD (setG g) (denT cl t) (fun s => (den cl elt s).map fun (z, s2) => (z.d, s2)) (own.map (·.2)) xs (wipeD s1.1 (own.map (·.2)), s1.2) []).map fun (ds, s2) => (.fl ds, (restD s1.1 s2.1 (own.map (·.2)), s2.2))
def denL (cl : CL) : List XE → DS → Option (List D × DS)
  | [], s => some ([], s)
  | e :: es, s => (den cl e s).bind fun (x, s1) => (denL cl es s1).map fun (xs, s2) => (x.d :: xs, s2)
def denO (cl : CL) : Option XE → DS → Option (Option Int × DS)
  | none, s => some (none, s)
  | some e, s => (den cl e s).bind fun (x, s1) => match x.d with
    | .int i => some (some i, s1)
    | _ => none
/-- the test of a comprehension -/
def denT (cl : CL) : Option XE → DS → Option (Bool × DS)
  | none, s => some (true, s)
  | some e, s => (den cl e s).bind fun (x, s1) => (truD s1.2 x.d).map fun k => (k, s1)
def denI (cl : CL) : XI → DS → Option (List D × DS)
  | .seq e, s => (den cl e s).bind fun (x, s1) => x.d.seq.map fun xs => (xs, s1)
  | .rng1 e, s => (den cl e s).bind fun (x, s1) => match x.d with
    | .int n => if smallI n then some (rngL 0 n.toNat, s1) else none
    | _ => none
  | .rng2 a b, s => (den cl a s).bind fun (x, s1) => (den cl b s1).bind fun (y, s2) => match x.d, y.d with
    | .int i, .int j => if smallI i && smallI j then some (rngL i (j - i).toNat, s2) else none
    | _, _ => none
end

/-! ### statements -/
def putM (M : List MO) : D → D → D → Option (List MO)
  | .adr n, .int i, d => match M[n]? with
    | some (.lst xs) => (ixN xs.length i).map fun j => M.set n (.lst (xs.set j d))
    | _ => none
  | _, _, _ => none
def augD : BOp → D → D → Option D
  | .add, .int i, .int j => some (.int (i + j))
  | .add, .str x, .str y => if x.length + y.length ≤ sizeLine then some (.str (x ++ y)) else none
  | .sub, .int i, .int j => some (.int (i - j))
  | _, _, _ => none
def listM (M : List MO) : D → Option (Nat × List D)
  | .adr n => match M[n]? with
    | some (.lst xs) => some (n, xs)
    | _ => none
  | _ => none
mutual
def denS (cl : CL) : XS → DS → Option (Out × DS)
  | .asg g e, s => (den cl e s).bind fun (x, s1) => (setG g x.d s1.1).map fun S => (.nx, (S, s1.2))
  | .setO i e, s => (den cl e s).bind fun (x, s1) => match x with
    | .fl ds => if i < s1.1.length then some (.nx, (s1.1.set i (.own ds), s1.2)) else none
    | .v _ => none
  | .setM i e, s => (den cl e s).bind fun (x, s1) => match x with
    | .fl ds => some (.nx, (s1.1.set i (.val (.adr s1.2.length)), s1.2 ++ [.lst ds]))
    | .v _ => none
  | .app i e, s => (readO i s.1).bind fun _ => (den cl e s).bind fun (x, s1) => (readO i s1.1).bind fun ds =>
      if ds.length < sizeLine then some (.nx, (s1.1.set i (.own (ds ++ [x.d])), s1.2)) else none
  | .appM a e, s => (den cl a s).bind fun (o, s0) => (listM s0.2 o.d).bind fun _ => (den cl e s0).bind fun (x, s1) => (listM s1.2 o.d).bind fun (n, ds) =>
      if ds.length < sizeLine then some (.nx, (s1.1, s1.2.set n (.lst (ds ++ [x.d])))) else none
  | .drop e, s => (den cl e s).map fun (_, s1) => (.nx, s1)
  | .ret e, s => (den cl e s).map fun (x, s1) => (.rt x.d, s1)
  | .retN, s => some (.rt .non, s)
  | .ife c a b, s => (den cl c s).bind fun (x, s1) => (truD s1.2 x.d).bind fun k => match k with
    | true => denB cl a s1
    | false => denB cl b s1
  | .loop g it body, s => (denI cl it s).bind fun (xs, s1) => forD (setG g) (denB cl body) xs s1
  | .wh c body, s => whD (fun s => (den cl c s).bind fun (x, s1) => (truD s1.2 x.d).map fun k => (k, s1)) (denB cl body) big s
  | .brk, s => some (.bk, s)
  | .cnt, s => some (.ct, s)
  | .pass, s => some (.nx, s)
  | .put a i e, s => (den cl e s).bind fun (x, s1) => (den cl a s1).bind fun (o, s2) => (den cl i s2).bind fun (k, s3) => (putM s3.2 o.d k.d x.d).map fun M => (.nx, (s3.1, M))
  | .aug i op e, s => match s.1[i]? with
    | some (.val d) => (den cl e s).bind fun (x, s1) => (augD op d x.d).map fun w => (.nx, (s1.1.set i (.val w), s1.2))
    | _ => none
def denB (cl : CL) : List XS → DS → Option (Out × DS)
  | [], s => some (.nx, s)
  | t :: ts, s => (denS cl t s).bind fun q => match q with
    | (.nx, s1) => denB cl ts s1
    | (o, s1) => some (o, s1)
end

/-! ### defs -/
structure Fn where
  name : String
  pars : Nat
  names : List Str
  body : List XS
structure Tbl where
  fns : List Fn
  globs : List (String × D)
def Fn.start (f : Fn) (ds : List D) : List SV := ds.map .val ++ List.replicate (f.names.length - ds.length) .none
def Out.val : Out → Option D
  | .rt d => some d
  | .nx => some .non
  | _ => none
/-- a call by at most k levels -/
def callD (T : Tbl) : Nat → CL
  | 0, f, ds, M => match T.globs.lookup f with
    | some d => if ds.isEmpty then some (d, M) else none
    | none => none
  | k + 1, f, ds, M => match T.globs.lookup f with
    | some d => if ds.isEmpty then some (d, M) else none
    | none => match T.fns.find? (fun g => g.name == f) with
      | some g => if ds.length = g.pars then (denB (callD T k) g.body (g.start ds, M)).bind fun (o, s) => o.val.map fun d => (d, s.2) else none
      | none => none
end DL

end
section
/-! DC: the operations' soundness. -/
namespace DL
open PySem PySem.Spec L2

section
variable {K : PySem.W.Frag} {ct : Nat → Addr} {F H F' H' F2 H2 F0 H0 : Hp} {as as' as2 as0 : List Addr} {σ σ' σ2 σ0 : L2.St} {S S' S2 S0 : List SV} {M M' : List MO}
/-- a new address is none of those that matter -/
theorem Rel.free {p : Addr} (r : Rel K ct F H as σ S M) (hp : H p = none) : F p = none ∧ p ∉ as ∧ ¬ Own σ S p := by
  refine ⟨r.sub.free hp, fun h => ?_, fun ⟨i, ds, h1, h2⟩ => ?_⟩
  · obtain ⟨n, hn⟩ := List.getElem?_of_mem h
    have hl : n < M.length := by
      rw [← r.len]
      rcases Nat.lt_or_ge n as.length with z | z
      · exact z
      · rw [List.getElem?_eq_none z] at hn; cases hn
    obtain ⟨_, q⟩ := r.mo n p _ hn (List.getElem?_eq_getElem hl)
    obtain ⟨u, hu⟩ := q.some
    rw [hp] at hu; cases hu
  · obtain ⟨a, vs, e, hH, _⟩ := r.own i ds h1
    rw [h2] at e
    cases e
    rw [hp] at hH; cases hH
/-- a new object, not yet given to anyone -/
theorem Rel.fresh {p : Addr} {o : HO} (r : Rel K ct F H as σ S M) (hp : H p = none) : Rel K ct F (upd H p o) as σ S M ∧ Stp F H as σ S F (upd H p o) as σ S := by
  have hF : F p = none := r.sub.free hp
  refine Rel.frame r ⟨fun a u h => ?_, r.nd, r.len, fun n a u h1 h2 => ?_, rfl, fun i d h => by simp at h, fun i d h => by simp at h, fun i j ds es a h => by simp at h⟩ ⟨Sub.refl _, Pre.refl _, fun a u h _ _ => ?_, fun a u h n _ => n, fun a h => .inl h, fun a h => absurd h no_own, fun a u h => ?_⟩
  · rw [upd_ne (ne_of_none (r.sub a u h) hp)]; exact r.sub a u h
  · obtain ⟨q1, q2⟩ := r.mo n a u h1 h2
    obtain ⟨w, hw⟩ := q2.some
    exact ⟨q1, q2.mono (Sub.refl _) (Pre.refl _) (upd_ne (ne_of_none hw hp))⟩
  · rw [upd_ne (ne_of_none h hp)]; exact h
  · exact ⟨u, by rw [upd_ne (ne_of_none h hp)]; exact h⟩
/-- a new list is given away -/
theorem Rel.give {p : Addr} {vs : List V} {ds : List D} (r : Rel K ct F H as σ S M) (s : Stp F0 H0 as0 σ0 S0 F H as σ S) (h0 : H0 p = none) (hp : H p = some (.lst vs)) (hF : F p = none) (ha : p ∉ as) (ho : ¬ Own σ S p) (q : RepL K F as vs ds) :
    Rel K ct (upd F p (.lst vs)) H as σ S M ∧ Stp F0 H0 as0 σ0 S0 (upd F p (.lst vs)) H as σ S ∧ Rep K (upd F p (.lst vs)) as (.ref p) (.lst ds) := by
  have sF : Sub F (upd F p (.lst vs)) := Sub.new hF
  refine ⟨⟨fun b o h => ?_, r.nd, r.len, fun n b o h1 h2 => ?_, r.slen, fun j x h => ?_, fun j x h => ?_, r.sep⟩, ⟨s.sub.trans sF, s.pre, s.keep, fun b o h n w => ?_, s.new, s.own, s.kept⟩, .lst upd_same (q.mono sF (Pre.refl _))⟩
  · by_cases e : b = p
    · subst e; rw [upd_same] at h; cases h; exact hp
    · rw [upd_ne e] at h; exact r.sub b o h
  · obtain ⟨q1, q2⟩ := r.mo n b o h1 h2
    have ne : b ≠ p := fun z => ha (z ▸ List.mem_of_getElem? h1)
    exact ⟨by rw [upd_ne ne]; exact q1, q2.mono sF (Pre.refl _) rfl⟩
  · obtain ⟨v, f1, f2⟩ := r.val j x h
    exact ⟨v, f1, f2.mono sF (Pre.refl _)⟩
  · obtain ⟨b, ws, f1, f2, f3, f4, f5⟩ := r.own j x h
    have ne : b ≠ p := fun z => ho ⟨j, x, h, z ▸ f1⟩
    exact ⟨b, ws, f1, f2, f3.mono sF (Pre.refl _), by rw [upd_ne ne]; exact f4, f5⟩
  · rw [upd_ne (ne_of_none h h0)]
    exact s.nofz b o h n w

/-- a result: a value, or a new list (new since H) -/
def ResOk (K : PySem.W.Frag) (H F' H' : Hp) (as' : List Addr) (σ : L2.St) (S' : List SV) : R → V → Prop
  | .v d, v => Rep K F' as' v d
  | .fl ds, v => ∃ p vs, v = .ref p ∧ H p = none ∧ H' p = some (.lst vs) ∧ F' p = none ∧ p ∉ as' ∧ ¬ Own σ S' p ∧ RepL K F' as' vs ds
theorem ResOk.back {Ha : Hp} {r : R} {v : V} (s : ∀ a o, Ha a = some o → ∃ o', H a = some o') (h : ResOk K H F' H' as' σ S' r v) : ResOk K Ha F' H' as' σ S' r v := by
  cases r with
  | v d => exact h
  | fl ds =>
    obtain ⟨p, vs, e, h1, h2⟩ := h
    refine ⟨p, vs, e, ?_, h2⟩
    cases q : Ha p with
    | none => rfl
    | some o =>
      obtain ⟨o', h'⟩ := s p o q
      rw [h1] at h'; cases h'
/-- what is wanted of a result, from what is wanted of a value -/
theorem ResOk.given {r : R} {v : V} {Q : VK} (rel : Rel K ct F' H' as' σ S' M') (stp : Stp F H as σ S F' H' as' σ S') (h : ResOk K H F' H' as' σ S' r v)
    (q : ∀ F', Rel K ct F' H' as' σ S' M' → Stp F H as σ S F' H' as' σ S' → Rep K F' as' v r.d → Q v H') : Q v H' := by
  cases r with
  | v d => exact q F' rel stp h
  | fl ds =>
    obtain ⟨p, vs, rfl, h1, h2, h3, h4, h5, h6⟩ := h
    obtain ⟨a, b, c⟩ := rel.give stp h1 h2 h3 h4 h5 h6
    exact q _ a b c
end

/-! ### operations on values: what a rule asks holds where the meaning is told -/
def OpS (K : PySem.W.Frag) (ct : Nat → Addr) (r : R2) (g : D → D → Option R) : Prop :=
  ∀ {F H : Hp} {as : List Addr} {σ : L2.St} {S : List SV} {M : List MO} {v w : V} {d e : D} {z : R} {Q : VK}, Rel K ct F H as σ S M → Rep K F as v d → Rep K F as w e → g d e = some z →
    (∀ F' H' u, Rel K ct F' H' as σ S M → Stp F H as σ S F' H' as σ S → ResOk K H F' H' as σ S z u → Q u H') → r v w H Q
theorem OpS.or1 {K : PySem.W.Frag} {ct : Nat → Addr} {r r' : R2} {g : D → D → Option R} {P : D → D → Prop} (h : ∀ {d e}, P d e → True) (a : OpS K ct r g) : OpS K ct (fun x y H Q => r x y H Q ∨ r' x y H Q) g :=
  fun rel rv rw h q => .inl (a rel rv rw h q)

section
variable {K : PySem.W.Frag} {ct : Nat → Addr} {F H F' H' F2 H2 : Hp} {as : List Addr} {σ : L2.St} {S : List SV} {M : List MO} {Q : VK}
/-- the end of a rule that lays a new list -/
theorem new_list {p : Addr} {vs : List V} {ds : List D} (rel : Rel K ct F H as σ S M) (hp : H p = none) (q : RepL K F as vs ds)
    (k : ∀ F' H' u, Rel K ct F' H' as σ S M → Stp F H as σ S F' H' as σ S → ResOk K H F' H' as σ S (.fl ds) u → Q u H') : Q (.ref p) (upd H p (.lst vs)) := by
  obtain ⟨r1, s1⟩ := rel.fresh (o := .lst vs) hp
  obtain ⟨f1, f2, f3⟩ := rel.free hp
  exact k F _ _ r1 s1 ⟨p, vs, rfl, hp, upd_same, f1, f2, f3, q⟩
theorem new_tup {p : Addr} {vs : List V} {ds : List D} (rel : Rel K ct F H as σ S M) (hp : H p = none) (q : RepL K F as vs ds)
    (k : ∀ F' H' u, Rel K ct F' H' as σ S M → Stp F H as σ S F' H' as σ S → ResOk K H F' H' as σ S (.v (.tup ds)) u → Q u H') : Q (.ref p) (upd H p (.tup vs)) := by
  obtain ⟨r1, s1⟩ := rel.laid (o := .tup vs) hp
  exact k _ _ _ r1 s1 (.tup (SqT.of upd_same) (q.mono s1.sub s1.pre))
theorem stay {u : V} {d : D} (rel : Rel K ct F H as σ S M) (q : Rep K F as u d)
    (k : ∀ F' H' u, Rel K ct F' H' as σ S M → Stp F H as σ S F' H' as σ S → ResOk K H F' H' as σ S (.v d) u → Q u H') : Q u H := k F H u rel Stp.refl q
end

def BOp.py : BOp → Operator
  | .add => .Add | .sub => .Sub | .mul => .Mult | .fdiv => .FloorDiv | .mod => .Mod | .pow => .Pow
theorem RepL.ne {K : PySem.W.Frag} {F : Hp} {as : List Addr} {vs : List V} {ds : List D} (h : RepL K F as vs ds) : vs = [] ↔ ds = [] := by
  cases h <;> simp
def addR (K : PySem.W.Frag) : R2 := fun x y H Q => (rI0 (fun i j => .int (i + j)) x y H Q ∨ (∃ i j, x = .str i ∧ y = .str j ∧ i.length + j.length ≤ sizeLine ∧ Q (.str (i ++ j)) H)) ∨ (rCatA K x y H Q ∨ rCat x y H Q)
theorem opBin {X : Cx} (ct : Nat → Addr) (op : BOp) : ∃ r : R2, OpR X (binaryOp op.py) r ∧ OpS X.K ct r (binD op) := by
  cases op with
  | add =>
    refine ⟨addR X.K, (op_add.or op_add_str).or (op_catA.or op_cat), ?_⟩
    intro F H as σ S M v w d e z Q rel rv rw h q
    cases rv <;> cases rw <;> simp only [binD] at h <;> first
      | (cases h; done)
      | skip
    · cases h
      exact .inl (.inl ⟨_, _, rfl, rfl, stay rel (.int _) q⟩)
    · split at h
      · rename_i hl
        cases h
        exact .inl (.inr ⟨_, _, rfl, rfl, hl, stay rel (.str _) q⟩)
      · cases h
    · rename_i a vs ds h1 r1 b ws es h2 r2
      split at h
      · rename_i hl
        cases h
        exact .inr (.inr ⟨a, b, vs, ws, rfl, rfl, rel.sub _ _ h1, rel.sub _ _ h2, by rw [r1.length, r2.length]; exact hl, fun p hp => new_list rel hp (r1.append r2) q⟩)
      · cases h
    · rename_i a vs ds h1 r1 b ws es h2 r2
      split at h
      · rename_i hl
        cases h
        refine .inr (.inl ⟨a, b, vs, ws, rfl, rfl, rel.sub.t h1, rel.sub.t h2, by rw [r1.length, r2.length]; exact hl, fun e => ?_, fun e e2 => ?_, fun _ _ p hp => new_tup rel hp (r1.append r2) q⟩)
        · rw [r1.ne] at e
          subst e
          exact stay rel (.tup h2 r2) q
        · rw [r2.ne] at e2
          subst e2
          exact stay rel (by rw [List.append_nil]; exact .tup h1 r1) q
      · cases h
  | sub =>
    refine ⟨_, op_sub, ?_⟩
    intro F H as σ S M v w d e z Q rel rv rw h q
    cases rv <;> cases rw <;> simp only [binD] at h <;> first
      | (cases h; done)
      | skip
    cases h
    exact ⟨_, _, rfl, rfl, stay rel (.int _) q⟩
  | mul =>
    refine ⟨_, op_mulW, ?_⟩
    intro F H as σ S M v w d e z Q rel rv rw h q
    cases rv <;> cases rw <;> simp only [binD] at h <;> first
      | (cases h; done)
      | skip
    split at h
    · rename_i hl
      cases h
      exact ⟨_, _, rfl, rfl, hl, stay rel (.int _) q⟩
    · cases h
  | fdiv =>
    refine ⟨_, op_fdivN, ?_⟩
    intro F H as σ S M v w d e z Q rel rv rw h q
    cases rv <;> cases rw <;> simp only [binD] at h <;> first
      | (cases h; done)
      | skip
    split at h
    · rename_i hl
      cases h
      exact ⟨_, _, rfl, rfl, hl, stay rel (.int _) q⟩
    · cases h
  | mod =>
    refine ⟨_, op_modN, ?_⟩
    intro F H as σ S M v w d e z Q rel rv rw h q
    cases rv <;> cases rw <;> simp only [binD] at h <;> first
      | (cases h; done)
      | skip
    split at h
    · rename_i hl
      cases h
      exact ⟨_, _, rfl, rfl, hl, stay rel (.int _) q⟩
    · cases h
  | pow =>
    refine ⟨_, op_pow, ?_⟩
    intro F H as σ S M v w d e z Q rel rv rw h q
    cases rv <;> cases rw <;> simp only [binD] at h <;> first
      | (cases h; done)
      | skip
    split at h
    · rename_i hl
      cases h
      exact ⟨_, _, rfl, rfl, hl, stay rel (.int _) q⟩
    · cases h

/-! ### comparisons -/
def COp.py : COp → CmpOp
  | .eq => .Eq | .ne => .NotEq | .lt => .Lt | .le => .LtE | .gt => .Gt | .ge => .GtE | .is => .Is | .isnot => .IsNot | .isin => .In | .notin => .NotIn
/-- a question about two values, asked of a heap that stays -/
def OpB (K : PySem.W.Frag) (r : R2) (g : D → D → Option Bool) : Prop :=
  ∀ {F H : Hp} {as : List Addr} {v w : V} {d e : D} {b : Bool} {Q : VK}, Sub F H → Rep K F as v d → Rep K F as w e → g d e = some b → Q (.bl b) H → r v w H Q
section
variable {K : PySem.W.Frag} {F H : Hp} {as : List Addr}
mutual
theorem Rep.dp : ∀ {v : V} {d : D}, Rep K F as v d → d.clean = true → Dp K F v d.py
  | _, _, .non, _ => .non
  | _, _, .bl b, _ => .bl b
  | _, _, .int i, _ => .int i
  | _, _, .str x, _ => .str x
  | _, _, .lst h r, c => .lst (SqL.of h) (RepL.dp r c)
  | _, _, .tup h r, c => .tup h (RepL.dp r c)
  | _, _, .fls h r, c => .lst h (RepL.dp r c)
  | _, _, .adr _, c => by simp [D.clean] at c
theorem RepL.dp : ∀ {vs : List V} {ds : List D}, RepL K F as vs ds → D.cleanL ds = true → DpAll K F vs (D.pyL ds)
  | _, _, .nil, _ => .nil
  | _, _, .cons h r, c => by
    have c' : (_ && _) = true := c
    rw [Bool.and_eq_true] at c'
    exact .cons (Rep.dp h c'.1) (RepL.dp r c'.2)
end
theorem Rep.flat : ∀ {v : V} {d : D}, Rep K F as v d → d.flat = true → v = d.toV ∧ flatV v = true
  | _, _, .non, _ => ⟨rfl, rfl⟩
  | _, _, .bl b, _ => ⟨rfl, rfl⟩
  | _, _, .int i, _ => ⟨rfl, rfl⟩
  | _, _, .str x, _ => ⟨rfl, rfl⟩
  | _, _, .lst _ _, c => by simp [D.flat] at c
  | _, _, .tup _ _, c => by simp [D.flat] at c
  | _, _, .fls _ _, c => by simp [D.flat] at c
  | _, _, .adr _, c => by simp [D.flat] at c
theorem RepL.flat : ∀ {vs : List V} {ds : List D}, RepL K F as vs ds → ds.all D.flat = true → vs = ds.map D.toV ∧ vs.all flatV = true
  | _, _, .nil, _ => ⟨rfl, rfl⟩
  | _, _, .cons h r, c => by
    rw [List.all_cons, Bool.and_eq_true] at c
    obtain ⟨e1, e2⟩ := Rep.flat h c.1
    obtain ⟨e3, e4⟩ := RepL.flat r c.2
    rw [e1, e3]
    rw [e1] at e2
    rw [e3] at e4
    exact ⟨rfl, by rw [List.all_cons, e2, e4]; rfl⟩
theorem isNon_iff {v : V} {d : D} (h : Rep K F as v d) : decide (v = .non) = d.isNon := by
  cases h <;> simp [D.isNon]
mutual
theorem dpMono (e : Sub F H) : ∀ {v : V} {d : PyData}, Dp K F v d → Dp K H v d
  | _, _, .non => .non
  | _, _, .bl b => .bl b
  | _, _, .int i => .int i
  | _, _, .str x => .str x
  | _, _, .lst h r => .lst (e.l h) (dpAllMono e r)
  | _, _, .tup h r => .tup (e.t h) (dpAllMono e r)
theorem dpAllMono (e : Sub F H) : ∀ {vs : List V} {ds : List PyData}, DpAll K F vs ds → DpAll K H vs ds
  | _, _, .nil => .nil
  | _, _, .cons h r => .cons (dpMono e h) (dpAllMono e r)
end
end
theorem opEqB {X : Cx} (hu : X.A.units + 64 < cLine) : ∃ r : R2, OpR X (compareOp .Eq) r ∧ OpB X.K r eqD := by
  refine ⟨fun x y H Q => rEq x y H Q ∨ rEqD X.K x y H Q, op_eq.or (op_eqD hu), ?_⟩
  intro F H as v w d e b Q sub rv rw' h q
  unfold eqD at h
  split at h
  · rename_i hf
    rw [Bool.and_eq_true, Bool.and_eq_true] at hf
    obtain ⟨⟨f1, f2⟩, f3⟩ := hf
    cases h
    obtain ⟨e1, _⟩ := rv.flat f1
    obtain ⟨e2, _⟩ := rw'.flat f2
    exact .inl ⟨by rw [e1, e2]; exact f3, by rw [e1, e2]; exact q⟩
  · split at h
    · rename_i hf
      rw [Bool.and_eq_true] at hf
      obtain ⟨f1, f2⟩ := hf
      unfold eqOk at f1 f2
      rw [Bool.and_eq_true] at f1 f2
      cases h
      exact .inr ⟨_, _, dpMono sub (rv.dp f1.1), dpMono sub (rw'.dp f2.1), f1.2, f2.2, q⟩
    · cases h
theorem opNeB {X : Cx} (hu : X.A.units + 64 < cLine) : ∃ r : R2, OpR X (compareOp .NotEq) r ∧ OpB X.K r (fun d e => (eqD d e).map (!·)) := by
  refine ⟨fun x y H Q => rNe x y H Q ∨ rNeD X.K x y H Q, op_ne.or (op_neD hu), ?_⟩
  intro F H as v w d e b Q sub rv rw' h q
  obtain ⟨b', h', rfl⟩ := Option.map_eq_some_iff.mp h
  clear h
  have h := h'
  unfold eqD at h
  split at h
  · rename_i hf
    rw [Bool.and_eq_true, Bool.and_eq_true] at hf
    obtain ⟨⟨f1, f2⟩, f3⟩ := hf
    cases h
    obtain ⟨e1, _⟩ := rv.flat f1
    obtain ⟨e2, _⟩ := rw'.flat f2
    exact .inl ⟨by rw [e1, e2]; exact f3, by rw [e1, e2]; exact q⟩
  · split at h
    · rename_i hf
      rw [Bool.and_eq_true] at hf
      obtain ⟨f1, f2⟩ := hf
      unfold eqOk at f1 f2
      rw [Bool.and_eq_true] at f1 f2
      cases h
      exact .inr ⟨_, _, dpMono sub (rv.dp f1.1), dpMono sub (rw'.dp f2.1), f1.2, f2.2, q⟩
    · cases h
theorem opIntB {X : Cx} {op : CmpOp} {f : Int → Int → Bool} {g : D → D → Option Bool} (h : OpR X (compareOp op) (rI0 fun i j => .bl (f i j)))
    (hg : ∀ d e b, g d e = some b → ∃ i j, d = .int i ∧ e = .int j ∧ b = f i j) : ∃ r : R2, OpR X (compareOp op) r ∧ OpB X.K r g := by
  refine ⟨_, h, ?_⟩
  intro F H as v w d e b Q sub rv rw' h q
  obtain ⟨i, j, rfl, rfl, rfl⟩ := hg d e b h
  cases rv
  cases rw'
  exact ⟨i, j, rfl, rfl, q⟩
theorem seq_of {K : PySem.W.Frag} {F H : Hp} {as : List Addr} {w : V} {e : D} {xs : List D} (sub : Sub F H) (r : Rep K F as w e) (h : e.seq = some xs) : ∃ p vs, w = .ref p ∧ (SqL K H p vs ∨ SqT K H p vs) ∧ RepL K F as vs xs := by
  cases r with
  | lst h1 r1 => cases h; exact ⟨_, _, rfl, .inl (SqL.of (sub _ _ h1)), r1⟩
  | tup h1 r1 => cases h; exact ⟨_, _, rfl, .inr (sub.t h1), r1⟩
  | fls h1 r1 => cases h; exact ⟨_, _, rfl, .inl (sub.l h1), r1⟩
  | _ => cases h
theorem opInB {X : Cx} : ∃ r : R2, OpR X (compareOp .In) r ∧ OpB X.K r inD := by
  refine ⟨_, op_in_seq.or op_in_str, ?_⟩
  intro F H as v w d e b Q sub rv rw' h q
  unfold inD at h
  split at h
  · rename_i xs hs
    split at h
    · rename_i hf
      rw [Bool.and_eq_true] at hf
      cases h
      obtain ⟨p, vs, rfl, hq, rl⟩ := seq_of sub rw' hs
      obtain ⟨e1, e2⟩ := rv.flat hf.1
      obtain ⟨e3, e4⟩ := rl.flat hf.2
      refine .inl ⟨p, vs, rfl, hq, e2, e4, ?_⟩
      rw [if_neg Bool.false_ne_true, e1, e3]
      exact q
    · cases h
  · split at h
    · cases h
      cases rv
      cases rw'
      exact .inr ⟨_, _, rfl, rfl, q⟩
    · cases h
theorem opNotInB {X : Cx} : ∃ r : R2, OpR X (compareOp .NotIn) r ∧ OpB X.K r (fun d e => (inD d e).map (!·)) := by
  refine ⟨_, op_notIn_seq.or op_notin_str, ?_⟩
  intro F H as v w d e b Q sub rv rw' h q
  obtain ⟨b', h', rfl⟩ := Option.map_eq_some_iff.mp h
  clear h
  have h := h'
  unfold inD at h
  split at h
  · rename_i xs hs
    split at h
    · rename_i hf
      rw [Bool.and_eq_true] at hf
      cases h
      obtain ⟨p, vs, rfl, hq, rl⟩ := seq_of sub rw' hs
      obtain ⟨e1, e2⟩ := rv.flat hf.1
      obtain ⟨e3, e4⟩ := rl.flat hf.2
      refine .inl ⟨p, vs, rfl, hq, e2, e4, ?_⟩
      rw [if_pos rfl, e1, e3]
      exact q
    · cases h
  · split at h
    · cases h
      cases rv
      cases rw'
      exact .inr ⟨_, _, rfl, rfl, q⟩
    · cases h
theorem opCmp {X : Cx} (hu : X.A.units + 64 < cLine) (op : COp) : ∃ r : R2, OpR X (compareOp op.py) r ∧ OpB X.K r (cmpD op) := by
  cases op with
  | eq => exact opEqB hu
  | ne => exact opNeB hu
  | lt => exact opIntB op_lt fun d e b h => by cases d <;> cases e <;> simp only [cmpD] at h <;> first | (cases h; done) | (cases h; exact ⟨_, _, rfl, rfl, rfl⟩)
  | le => exact opIntB op_le fun d e b h => by cases d <;> cases e <;> simp only [cmpD] at h <;> first | (cases h; done) | (cases h; exact ⟨_, _, rfl, rfl, rfl⟩)
  | gt => exact opIntB op_gt fun d e b h => by cases d <;> cases e <;> simp only [cmpD] at h <;> first | (cases h; done) | (cases h; exact ⟨_, _, rfl, rfl, rfl⟩)
  | ge => exact opIntB op_ge fun d e b h => by cases d <;> cases e <;> simp only [cmpD] at h <;> first | (cases h; done) | (cases h; exact ⟨_, _, rfl, rfl, rfl⟩)
  | is =>
    refine ⟨_, op_isN.or op_isBl, ?_⟩
    intro F H as v w d e b Q sub rv rw' h q
    cases rw' with
    | non =>
      have h' : some d.isNon = some b := by cases rv <;> exact h
      cases h'
      exact .inl ⟨rfl, by rw [isNon_iff rv]; exact q⟩
    | bl c =>
      cases rv <;> simp only [cmpD] at h <;> first | (cases h; done) | skip
      cases h
      exact .inr ⟨_, _, rfl, rfl, q⟩
    | _ => cases rv <;> simp only [cmpD] at h <;> (cases h; done)
  | isnot =>
    refine ⟨_, op_notN.or op_notBl, ?_⟩
    intro F H as v w d e b Q sub rv rw' h q
    cases rw' with
    | non =>
      have h' : some (!d.isNon) = some b := by cases rv <;> exact h
      cases h'
      exact .inl ⟨rfl, by rw [isNon_iff rv]; exact q⟩
    | bl c =>
      cases rv <;> simp only [cmpD] at h <;> first | (cases h; done) | skip
      cases h
      exact .inr ⟨_, _, rfl, rfl, q⟩
    | _ => cases rv <;> simp only [cmpD] at h <;> (cases h; done)
  | isin => exact opInB
  | notin => exact opNotInB

/-! ### subscripts -/
theorem atI_rep {K : PySem.W.Frag} {F : Hp} {as : List Addr} {vs : List V} {ds : List D} {i : Int} {d : D} (r : RepL K F as vs ds) (h : atI ds i = some d) : ∃ v, atI vs i = some v ∧ Rep K F as v d := by
  unfold atI at h ⊢
  rw [r.length]
  cases e : ixN ds.length i with
  | none => rw [e] at h; cases h
  | some j =>
    rw [e] at h
    exact r.get h
def OpI (K : PySem.W.Frag) (ct : Nat → Addr) (r : R2) : Prop :=
  ∀ {F H : Hp} {as : List Addr} {σ : L2.St} {S : List SV} {M : List MO} {v w : V} {d e z : D} {Q : VK}, Rel K ct F H as σ S M → Rep K F as v d → Rep K F as w e → idxD M d e = some z →
    (∀ u, Rep K F as u z → Q u H) → r v w H Q
theorem opIdx {X : Cx} (ct : Nat → Addr) : IxR X (rIx X.K) ∧ OpI X.K ct (rIx X.K) := by
  refine ⟨ix_seq, ?_⟩
  intro F H as σ S M v w d e z Q rel rv rw' h q
  cases rw' <;> (try (cases rv <;> simp only [idxD] at h <;> (cases h; done)))
  rename_i i
  cases rv <;> simp only [idxD] at h <;> first | (cases h; done) | skip
  · -- a text
    split at h
    · rename_i hl
      obtain ⟨c, hc, rfl⟩ := Option.map_eq_some_iff.mp h
      exact .inr (.inr ⟨_, i, c, rfl, rfl, hl, hc, q _ (.str _)⟩)
    · cases h
  · rename_i a vs ds h1 r1
    obtain ⟨u, hu, ru⟩ := atI_rep r1 h
    exact .inl ⟨a, vs, i, u, rfl, rfl, SqL.of (rel.sub _ _ h1), hu, q u ru⟩
  · rename_i a vs ds h1 r1
    obtain ⟨u, hu, ru⟩ := atI_rep r1 h
    exact .inr (.inl ⟨a, vs, i, u, rfl, rfl, rel.sub.t h1, hu, q u ru⟩)
  · rename_i a vs ds h1 r1
    obtain ⟨u, hu, ru⟩ := atI_rep r1 h
    exact .inl ⟨a, vs, i, u, rfl, rfl, rel.sub.l h1, hu, q u ru⟩
  · rename_i a n h1
    split at h
    · rename_i xs hM
      obtain ⟨_, vs, hH, r1⟩ := rel.mo n a _ h1 hM
      obtain ⟨u, hu, ru⟩ := atI_rep r1 h
      exact .inl ⟨a, vs, i, u, rfl, rfl, SqL.of hH, hu, q u ru⟩
    · cases h
theorem cut_rep {K : PySem.W.Frag} {F : Hp} {as : List Addr} {vs : List V} {ds : List D} (r : RepL K F as vs ds) (lo hi : Option Int) : RepL K F as (cutV vs lo hi) (cutD ds lo hi) := by
  unfold cutV cutD
  rw [r.length]
  exact (r.drop _).take _
theorem cut_whole (ds : List D) {lo hi : Option Int} (h : HT.sIx ds.length 0 lo = 0 ∧ HT.sIx ds.length ds.length hi = ds.length) : cutD ds lo hi = ds := by
  unfold cutD
  rw [h.1, h.2, List.drop_zero, Nat.sub_zero, List.take_length]
def slR (K : PySem.W.Frag) : V → Option Int → Option Int → Hp → VK → Prop := fun x lo hi H Q => (rSlL K x lo hi H Q ∨ rSlS x lo hi H Q) ∨ rSlA K x lo hi H Q
theorem opSlc {X : Cx} : SlR X (slR X.K) := (sl_list.or sl_str).or sl_tupA
theorem slc_ok {K : PySem.W.Frag} {ct : Nat → Addr} {F H : Hp} {as : List Addr} {σ : L2.St} {S : List SV} {M : List MO} {v : V} {d : D} {lo hi : Option Int} {z : R} {Q : VK} (rel : Rel K ct F H as σ S M) (rv : Rep K F as v d) (h : slcD d lo hi = some z)
    (q : ∀ F' H' u, Rel K ct F' H' as σ S M → Stp F H as σ S F' H' as σ S → ResOk K H F' H' as σ S z u → Q u H') : slR K v lo hi H Q := by
  cases rv <;> simp only [slcD] at h <;> first | (cases h; done) | skip
  · split at h
    · rename_i hl
      cases h
      exact .inl (.inr ⟨_, rfl, hl, stay rel (.str _) q⟩)
    · cases h
  · rename_i a vs ds h1 r1
    cases h
    exact .inl (.inl ⟨a, vs, rfl, SqL.of (rel.sub _ _ h1), fun p hp => new_list rel hp (cut_rep r1 lo hi) q⟩)
  · rename_i a vs ds h1 r1
    cases h
    refine .inr ⟨a, vs, rfl, rel.sub.t h1, fun hw => ?_, fun _ p hp => new_tup rel hp (cut_rep r1 lo hi) q⟩
    rw [r1.length] at hw
    exact stay rel (by rw [cut_whole ds hw]; exact .tup h1 r1) q
  · rename_i a vs ds h1 r1
    cases h
    exact .inl (.inl ⟨a, vs, rfl, rel.sub.l h1, fun p hp => new_list rel hp (cut_rep r1 lo hi) q⟩)

/-! ### truth -/
theorem tru_rep {K : PySem.W.Frag} {ct : Nat → Addr} {F H : Hp} {as : List Addr} {σ : L2.St} {S : List SV} {M : List MO} {v : V} {d : D} {b : Bool} (rel : Rel K ct F H as σ S M) (rv : Rep K F as v d) (h : truD M d = some b) : TruV K v H b := by
  have em : ∀ {vs : List V} {ds : List D}, RepL K F as vs ds → (!ds.isEmpty) = !vs.isEmpty := fun r => by cases r <;> rfl
  cases rv <;> simp only [truD] at h
  · cases h; rfl
  · cases h; rfl
  · cases h; rfl
  · split at h
    · rename_i hl
      cases h
      exact ⟨hl, rfl⟩
    · cases h
  · rename_i a vs ds h1 r1
    cases h
    exact .inl ⟨vs, SqL.of (rel.sub _ _ h1), em r1⟩
  · rename_i a vs ds h1 r1
    cases h
    exact .inr (.inl ⟨vs, rel.sub.t h1, em r1⟩)
  · rename_i a vs ds h1 r1
    cases h
    exact .inl ⟨vs, rel.sub.l h1, em r1⟩
  · rename_i a n h1
    split at h
    · rename_i xs hM
      obtain ⟨_, vs, hH, r1⟩ := rel.mo n a _ h1 hM
      cases h
      exact .inl ⟨vs, SqL.of hH, em r1⟩
    · rename_i xs hM
      obtain ⟨_, vs, hH, r1⟩ := rel.mo n a _ h1 hM
      cases h
      exact .inr (.inr ⟨vs, hH, by cases r1 <;> rfl⟩)
    · cases h

/-! ### built-in functions of one argument -/
def Bi.py : Bi → Str × Value
  | .len => ("len", .builtin "len") | .list => ("list", .type "list") | .tuple => ("tuple", .type "tuple") | .sum => ("sum", .builtin "sum") | .abs => ("abs", .builtin "abs")
  | .int => ("int", .type "int") | .str => ("str", .type "str")
  | .isint => ("isinstance", .builtin "isinstance") | .isbool => ("isinstance", .builtin "isinstance") | .isstr => ("isinstance", .builtin "isinstance")
  | .islist => ("isinstance", .builtin "isinstance") | .istuple => ("isinstance", .builtin "isinstance")
/-- the written second argument of isinstance -/
def Bi.ty : Bi → Option String
  | .isint => some "int" | .isbool => some "bool" | .isstr => some "str" | .islist => some "list" | .istuple => some "tuple"
  | _ => none
def Bi.vs (p : Bi) (v : V) : List V := match p.ty with
  | some t => [v, .ty t]
  | none => [v]
theorem ints_of : ∀ {ds : List D} {ns : List Int}, intsD ds = some ns → ds = ns.map D.int
  | [], ns, h => by
    have e : some [] = some ns := h
    cases e
    rfl
  | d :: ds, ns, h => by
    cases d <;> simp only [intsD] at h <;> first | (cases h; done) | skip
    obtain ⟨ms, hm, rfl⟩ := Option.map_eq_some_iff.mp h
    rw [ints_of hm]
    rfl
def CallS (K : PySem.W.Frag) (ct : Nat → Addr) (p : Bi) (r : List V → Hp → VK → Prop) : Prop :=
  ∀ {F H : Hp} {as : List Addr} {σ : L2.St} {S : List SV} {M : List MO} {v : V} {d : D} {z : R} {Q : VK}, Rel K ct F H as σ S M → Rep K F as v d → biD M p d = some z →
    (∀ F' H' u, Rel K ct F' H' as σ S M → Stp F H as σ S F' H' as σ S → ResOk K H F' H' as σ S z u → Q u H') → r (p.vs v) H Q
def D.tyN : D → String
  | .non => "NoneType" | .bl _ => "bool" | .int _ => "int" | .str _ => "str" | .lst _ => "list" | .tup _ => "tuple" | .fls _ => "list" | .adr _ => ""
/-- the built-in type of a value -/
theorem ty_rep {K : PySem.W.Frag} {F H : Hp} {as : List Addr} {v : V} {d : D} (sub : Sub F H) (r : Rep K F as v d) (n : ∀ k, d ≠ .adr k) : ∃ t : String, TyX K H v (.type t) ∧
    t = d.tyN := by
  have l : ∀ {a : Addr} {xs : List V}, SqL K H a xs → TyX K H (.ref a) (.type "list") := fun {a xs} h => by
    rcases h with (h | ⟨o, h⟩) | ⟨o, its, n, h, c, _⟩
    · exact .base (.lst h)
    · exact .base (.frz h)
    · exact .kList h c
  have t : ∀ {a : Addr} {xs : List V}, SqT K H a xs → TyX K H (.ref a) (.type "tuple") := fun {a xs} h => by
    rcases h with (h | ⟨o, h⟩) | ⟨o, its, n, h, c, _⟩
    · exact .base (.tup h)
    · exact .fTuple h
    · exact .kTuple h c
  cases r with
  | non => exact ⟨_, .base .non, rfl⟩
  | bl b => exact ⟨_, .base (.bl b), rfl⟩
  | int i => exact ⟨_, .base (.int i), rfl⟩
  | str x => exact ⟨_, .base (.str x), rfl⟩
  | lst h _ => exact ⟨_, l (SqL.of (sub _ _ h)), rfl⟩
  | tup h _ => exact ⟨_, t (sub.t h), rfl⟩
  | fls h _ => exact ⟨_, l (sub.l h), rfl⟩
  | adr h => exact absurd rfl (n _)
theorem isi_ok {X : Cx} (ct : Nat → Addr) {p : Bi} {t : String} (hp : p.ty = some t) (hc : ClsV (.ty t) (.type t))
    (hk : ∀ (M : List MO) (d : D) (z : R), biD M p d = some z → (∀ k, d ≠ .adr k) ∧ ∃ b, z = .v (.bl b) ∧
      kitB d.tyN t = some b) :
    CallS X.K ct p (rIsi X.K) := by
  intro F H as σ S M v d z Q rel rv h q
  obtain ⟨n, b, rfl, hb⟩ := hk M d z h
  obtain ⟨ty, h1, h2⟩ := ty_rep rel.sub rv n
  have e : p.vs v = [v, .ty t] := by unfold Bi.vs; rw [hp]
  rw [e]
  exact ⟨v, .ty t, .type ty, .type t, b, rfl, hc, h1, kit_ty (by rw [h2]; exact hb), stay rel (.bl b) q⟩
def cList (K : PySem.W.Frag) : List V → Hp → VK → Prop := fun xs H Q => ∃ p ys, xs = [.ref p] ∧ (SqL K H p ys ∨ SqT K H p ys) ∧ ∀ l, H l = none → Q (.ref l) (upd H l (.lst ys))
theorem opBi {X : Cx} (hc : X.calm = true) (ct : Nat → Addr) (p : Bi) : ∃ r : List V → Hp → VK → Prop, CallR X p.py.2 r ∧ CallS X.K ct p r := by
  cases p with
  | len =>
    refine ⟨_, call_len, ?_⟩
    intro F H as σ S M v d z Q rel rv h q
    cases rv <;> simp only [biD] at h <;> first | (cases h; done) | skip
    · split at h
      · rename_i hl
        cases h
        exact ⟨_, _, rfl, ⟨hl, rfl⟩, stay rel (.int _) q⟩
      · cases h
    · rename_i a vs ds h1 r1
      cases h
      exact ⟨_, ds.length, rfl, .inl ⟨vs, SqL.of (rel.sub _ _ h1), r1.length.symm⟩, stay rel (.int _) q⟩
    · rename_i a vs ds h1 r1
      cases h
      exact ⟨_, ds.length, rfl, .inr ⟨vs, rel.sub.t h1, r1.length.symm⟩, stay rel (.int _) q⟩
    · rename_i a vs ds h1 r1
      cases h
      exact ⟨_, ds.length, rfl, .inl ⟨vs, rel.sub.l h1, r1.length.symm⟩, stay rel (.int _) q⟩
    · rename_i a n h1
      split at h
      · rename_i xs hM
        obtain ⟨_, vs, hH, r1⟩ := rel.mo n a _ h1 hM
        cases h
        exact ⟨_, xs.length, rfl, .inl ⟨vs, SqL.of hH, r1.length.symm⟩, stay rel (.int _) q⟩
      · cases h
  | list =>
    refine ⟨cList X.K, call_list_of, ?_⟩
    intro F H as σ S M v d z Q rel rv h q
    cases rv <;> simp only [biD] at h <;> first | (cases h; done) | skip
    · rename_i a vs ds h1 r1
      cases h
      exact ⟨a, vs, rfl, .inl (SqL.of (rel.sub _ _ h1)), fun p hp => new_list rel hp r1 q⟩
    · rename_i a vs ds h1 r1
      cases h
      exact ⟨a, vs, rfl, .inr (rel.sub.t h1), fun p hp => new_list rel hp r1 q⟩
    · rename_i a vs ds h1 r1
      cases h
      exact ⟨a, vs, rfl, .inl (rel.sub.l h1), fun p hp => new_list rel hp r1 q⟩
  | tuple =>
    refine ⟨_, call_tuple_of, ?_⟩
    intro F H as σ S M v d z Q rel rv h q
    cases rv <;> simp only [biD] at h <;> first | (cases h; done) | skip
    · rename_i a vs ds h1 r1
      cases h
      exact ⟨a, vs, rfl, .inl ⟨SqL.of (rel.sub _ _ h1), fun p hp => new_tup rel hp r1 q⟩⟩
    · rename_i a vs ds h1 r1
      cases h
      exact ⟨a, vs, rfl, .inr ⟨rel.sub.t h1, stay rel (.tup h1 r1) q⟩⟩
    · rename_i a vs ds h1 r1
      cases h
      exact ⟨a, vs, rfl, .inl ⟨rel.sub.l h1, fun p hp => new_tup rel hp r1 q⟩⟩
  | sum =>
    refine ⟨_, cr_sum hc, ?_⟩
    intro F H as σ S M v d z Q rel rv h q
    cases rv <;> simp only [biD] at h <;> first | (cases h; done) | skip
    rename_i a vs ds h1 r1
    obtain ⟨ns, hn, rfl⟩ := Option.map_eq_some_iff.mp h
    have e := ints_of hn
    subst e
    have e := r1.ints
    subst e
    exact ⟨a, ns, rfl, SqL.of (rel.sub _ _ h1), stay rel (.int _) q⟩
  | abs =>
    refine ⟨_, call_abs, ?_⟩
    intro F H as σ S M v d z Q rel rv h q
    cases rv <;> simp only [biD] at h <;> first | (cases h; done) | skip
    cases h
    exact ⟨_, rfl, stay rel (.int _) q⟩
  | int =>
    refine ⟨_, call_int1, ?_⟩
    intro F H as σ S M v d z Q rel rv h q
    cases rv <;> simp only [biD] at h <;> first | (cases h; done) | skip
    cases h
    exact .inl ⟨_, rfl, stay rel (.int _) q⟩
  | str =>
    refine ⟨_, call_str_int, ?_⟩
    intro F H as σ S M v d z Q rel rv h q
    cases rv <;> simp only [biD] at h <;> first | (cases h; done) | skip
    split at h
    · rename_i hl
      cases h
      exact ⟨_, rfl, hl, stay rel (.str _) q⟩
    · cases h
  | isint => exact ⟨_, call_isi, isi_ok ct rfl (.ty _) fun M d z h => by
      cases d <;> simp only [biD] at h <;> first | (cases h; done) | (cases h; exact ⟨fun k e => (nomatch e), _, rfl, by simp only [D.tyN]; decide +kernel⟩)⟩
  | isbool => exact ⟨_, call_isi, isi_ok ct rfl (.ty _) fun M d z h => by
      cases d <;> simp only [biD] at h <;> first | (cases h; done) | (cases h; exact ⟨fun k e => (nomatch e), _, rfl, by simp only [D.tyN]; decide +kernel⟩)⟩
  | isstr => exact ⟨_, call_isi, isi_ok ct rfl (.ty _) fun M d z h => by
      cases d <;> simp only [biD] at h <;> first | (cases h; done) | (cases h; exact ⟨fun k e => (nomatch e), _, rfl, by simp only [D.tyN]; decide +kernel⟩)⟩
  | islist => exact ⟨_, call_isi, isi_ok ct rfl (.ty _) fun M d z h => by
      cases d <;> simp only [biD] at h <;> first | (cases h; done) | (cases h; exact ⟨fun k e => (nomatch e), _, rfl, by simp only [D.tyN]; decide +kernel⟩)⟩
  | istuple => exact ⟨_, call_isi, isi_ok ct rfl (.ty _) fun M d z h => by
      cases d <;> simp only [biD] at h <;> first | (cases h; done) | (cases h; exact ⟨fun k e => (nomatch e), _, rfl, by simp only [D.tyN]; decide +kernel⟩)⟩
end DL

end
section
/-! DD: readings of expressions by their meaning. -/
namespace DL
open PySem PySem.Spec L2

section
variable {K : PySem.W.Frag} {ct : Nat → Addr} {F H F' H' F1 H1 F2 H2 F0 H0 : Hp} {as as' as1 as2 as0 : List Addr} {σ σ' σ2 σ0 : L2.St} {S S' S1 S2 S0 : List SV} {M M' M1 : List MO}
/-- an address that is tracked and none of those that matter gets another object -/
theorem Rel.other {p : Addr} {o : HO} (r : Rel K ct F H as σ S M) (s : Stp F0 H0 as0 σ0 S0 F H as σ S) (h0 : H0 p = none) (hF : F p = none) (ha : p ∉ as) (ho : ¬ Own σ S p) :
    Rel K ct F (upd H p o) as σ S M ∧ Stp F0 H0 as0 σ0 S0 F (upd H p o) as σ S := by
  refine ⟨⟨fun b u h => ?_, r.nd, r.len, fun n b u h1 h2 => ?_, r.slen, r.val, fun j x h => ?_, r.sep⟩, ⟨s.sub, s.pre, fun b u h n w => ?_, s.nofz, s.new, s.own, fun b u h => ?_⟩⟩
  · rw [upd_ne (ne_of_none h hF)]; exact r.sub b u h
  · obtain ⟨q1, q2⟩ := r.mo n b u h1 h2
    have ne : b ≠ p := fun z => ha (z ▸ List.mem_of_getElem? h1)
    exact ⟨q1, q2.mono (Sub.refl _) (Pre.refl _) (upd_ne ne)⟩
  · obtain ⟨b, ws, f1, f2, f3, f4, f5⟩ := r.own j x h
    have ne : b ≠ p := fun z => ho ⟨j, x, h, z ▸ f1⟩
    exact ⟨b, ws, f1, by rw [upd_ne ne]; exact f2, f3, f4, f5⟩
  · rw [upd_ne (ne_of_none h h0)]; exact s.keep b u h n w
  · obtain ⟨u', hu⟩ := s.kept b u h
    exact ⟨u', by rw [upd_ne (ne_of_none h h0)]; exact hu⟩
/-- what stays of such an address through a step -/
theorem Stp.aside {p : Addr} {o : HO} (s : Stp F H as σ S F' H' as' σ' S') (h : H p = some o) (hF : F p = none) (ha : p ∉ as) (ho : ¬ Own σ S p) : H' p = some o ∧ F' p = none ∧ p ∉ as' ∧ ¬ Own σ' S' p :=
  ⟨s.keep p o h ha ho, s.nofz p o h hF ho, fun z => (s.new p z).elim ha (fun q => nomatch (h.symm.trans q)), fun z => (s.own p z).elim ho (fun q => nomatch (h.symm.trans q))⟩

/-! ### wiped slots -/
theorem wipeD_length (S : List SV) : ∀ vs : List Nat, (wipeD S vs).length = S.length
  | [] => rfl
  | v :: vs => by unfold wipeD; rw [List.length_set, wipeD_length S vs]
theorem wipeD_get {j : Nat} {x : SV} (hx : x ≠ .none) : ∀ {vs : List Nat}, (wipeD S vs)[j]? = some x → S[j]? = some x ∧ j ∉ vs
  | [], h => ⟨h, by simp⟩
  | v :: vs, h => by
    unfold wipeD at h
    by_cases e : v = j
    · subst e
      rcases Nat.lt_or_ge v (wipeD S vs).length with z | z
      · rw [List.getElem?_set_self z] at h; cases h; exact absurd rfl hx
      · rw [List.getElem?_eq_none (by simpa using z)] at h; cases h
    · rw [List.getElem?_set_ne e] at h
      obtain ⟨h1, h2⟩ := wipeD_get hx h
      exact ⟨h1, by simp only [List.mem_cons, not_or]; exact ⟨fun w => e w.symm, h2⟩⟩
theorem wipeD_out {j : Nat} : ∀ {vs : List Nat}, j ∉ vs → (wipeD S vs)[j]? = S[j]?
  | [], _ => rfl
  | v :: vs, h => by
    simp only [List.mem_cons, not_or] at h
    unfold wipeD
    rw [List.getElem?_set_ne (fun w => h.1 w.symm)]
    exact wipeD_out h.2
theorem own_wipe {vs : List Nat} {a : Addr} (h : Own (wipe σ vs) (wipeD S vs) a) : Own σ S a := by
  obtain ⟨i, ds, h1, h2⟩ := h
  obtain ⟨e, hn⟩ := wipeD_get (by intro z; cases z) h1
  rw [wipe_out hn] at h2
  exact ⟨i, ds, e, h2⟩
theorem Rel.wipe (r : Rel K ct F H as σ S M) (vs : List Nat) : Rel K ct F H as (L2.wipe σ vs) (wipeD S vs) M ∧ Stp F H as σ S F H as (L2.wipe σ vs) (wipeD S vs) := by
  refine ⟨⟨r.sub, r.nd, r.len, r.mo, by rw [wipe_length, wipeD_length]; exact r.slen, fun j x h => ?_, fun j x h => ?_, fun j k x y a h1 h2 h3 h4 => ?_⟩, ⟨Sub.refl _, Pre.refl _, fun _ _ h _ _ => h, fun _ _ _ n _ => n, fun _ h => .inl h, fun a h => .inl (own_wipe h), fun _ o h => ⟨o, h⟩⟩⟩
  · obtain ⟨e, hn⟩ := wipeD_get (by intro z; cases z) h
    rw [wipe_out hn]
    exact r.val j x e
  · obtain ⟨e, hn⟩ := wipeD_get (by intro z; cases z) h
    rw [wipe_out hn]
    exact r.own j x e
  · obtain ⟨e1, hn1⟩ := wipeD_get (by intro z; cases z) h1
    obtain ⟨e2, hn2⟩ := wipeD_get (by intro z; cases z) h2
    rw [wipe_out hn1] at h3
    rw [wipe_out hn2] at h4
    exact r.sep j k x y a e1 e2 h3 h4
theorem restD_length (S T : List SV) : ∀ vs : List Nat, (restD S T vs).length = T.length
  | [] => rfl
  | v :: vs => by unfold restD; rw [List.length_set, restD_length S T vs]
theorem restD_out {T : List SV} {j : Nat} : ∀ {vs : List Nat}, j ∉ vs → (restD S T vs)[j]? = T[j]?
  | [], _ => rfl
  | v :: vs, h => by
    simp only [List.mem_cons, not_or] at h
    unfold restD
    rw [List.getElem?_set_ne (fun w => h.1 w.symm)]
    exact restD_out h.2
theorem restD_in {T : List SV} {j : Nat} {x : SV} : ∀ {vs : List Nat}, j ∈ vs → (restD S T vs)[j]? = some x → x = S.getD j .none
  | [], h, _ => by simp at h
  | v :: vs, h, e => by
    unfold restD at e
    by_cases z : v = j
    · subst z
      rcases Nat.lt_or_ge v (restD S T vs).length with w | w
      · rw [List.getElem?_set_self w] at e; cases e; rfl
      · rw [List.getElem?_eq_none (by simpa using w)] at e; cases e
    · rw [List.getElem?_set_ne z] at e
      refine restD_in ?_ e
      rcases List.mem_cons.mp h with q | q
      · exact absurd q.symm z
      · exact q
theorem getD_some {S : List SV} {j : Nat} {x : SV} (hx : x ≠ .none) (h : x = S.getD j .none) : S[j]? = some x := by
  rw [List.getD_eq_getElem?_getD] at h
  cases e : S[j]? with
  | none => rw [e] at h; exact absurd h hx
  | some y => rw [e] at h; rw [h]; rfl
theorem Rel.unwipe {vs : List Nat} (r1 : Rel K ct F1 H1 as1 σ S1 M1) (s : Stp F1 H1 as1 (L2.wipe σ vs) (wipeD S1 vs) F H as (L2.wipe σ vs) S) (r : Rel K ct F H as (L2.wipe σ vs) S M) :
    Rel K ct F H as σ (restD S1 S vs) M ∧ Stp F1 H1 as1 σ S1 F H as σ (restD S1 S vs) := by
  -- an owned one of the restored places
  have back : ∀ {j : Nat} {x : List D}, (restD S1 S vs)[j]? = some (.own x) → (j ∈ vs ∧ S1[j]? = some (.own x)) ∨ (j ∉ vs ∧ S[j]? = some (.own x)) := fun {j x} h => by
    by_cases e : j ∈ vs
    · exact .inl ⟨e, getD_some (by intro z; cases z) (restD_in e h)⟩
    · rw [restD_out e] at h
      exact .inr ⟨e, h⟩
  have apart : ∀ {j : Nat} {x : List D} {a : Addr}, j ∈ vs → S1[j]? = some (.own x) → σ[j]? = some (some (V.ref a)) → ¬ Own (L2.wipe σ vs) (wipeD S1 vs) a := fun {j x a} hj h1 h2 ⟨k, y, h3, h4⟩ => by
    obtain ⟨e, hn⟩ := wipeD_get (by intro z; cases z) h3
    rw [wipe_out hn] at h4
    have := r1.sep j k x y a h1 e h2 h4
    exact hn (this ▸ hj)
  refine ⟨⟨r.sub, r.nd, r.len, r.mo, by rw [restD_length, ← r.slen, wipe_length], fun j d h => ?_, fun j x h => ?_, fun j k x y a h1 h2 h3 h4 => ?_⟩, ⟨s.sub, s.pre, fun a o h n w => s.keep a o h n fun z => w (own_wipe z), fun a o h n w => s.nofz a o h n fun z => w (own_wipe z), s.new, fun a ⟨j, x, h1, h2⟩ => ?_, s.kept⟩⟩
  · by_cases e : j ∈ vs
    · obtain ⟨v, f1, f2⟩ := r1.val j d (getD_some (by intro z; cases z) (restD_in e h))
      exact ⟨v, f1, f2.mono s.sub s.pre⟩
    · rw [restD_out e] at h
      obtain ⟨v, f1, f2⟩ := r.val j d h
      rw [wipe_out e] at f1
      exact ⟨v, f1, f2⟩
  · rcases back h with ⟨e, h⟩ | ⟨e, h⟩
    · obtain ⟨a, ws, f1, f2, f3, f4, f5⟩ := r1.own j x h
      obtain ⟨g1, g2, g3, g4⟩ := s.aside f2 f4 f5 (apart e h f1)
      exact ⟨a, ws, f1, g1, f3.mono s.sub s.pre, g2, g3⟩
    · obtain ⟨a, ws, f1, f2⟩ := r.own j x h
      rw [wipe_out e] at f1
      exact ⟨a, ws, f1, f2⟩
  · have cross : ∀ {j k : Nat} {x y : List D}, j ∈ vs → S1[j]? = some (.own x) → σ[j]? = some (some (V.ref a)) → k ∉ vs → S[k]? = some (.own y) → σ[k]? = some (some (V.ref a)) → False := fun {j k x y} a1 a2 a3 b1 b2 b3 => by
      have ow : Own (L2.wipe σ vs) S a := ⟨k, y, b2, by rw [wipe_out b1]; exact b3⟩
      rcases s.own a ow with q | q
      · exact apart a1 a2 a3 q
      · obtain ⟨a', ws, f1, f2, _⟩ := r1.own j x a2
        rw [a3] at f1
        cases f1
        rw [q] at f2; cases f2
    rcases back h1 with ⟨e1, g1⟩ | ⟨e1, g1⟩
    · rcases back h2 with ⟨e2, g2⟩ | ⟨e2, g2⟩
      · exact r1.sep j k x y a g1 g2 h3 h4
      · exact (cross e1 g1 h3 e2 g2 h4).elim
    · rcases back h2 with ⟨e2, g2⟩ | ⟨e2, g2⟩
      · exact (cross e2 g2 h4 e1 g1 h3).elim
      · exact r.sep j k x y a g1 g2 (by rw [wipe_out e1]; exact h3) (by rw [wipe_out e2]; exact h4)
  · rcases back h1 with ⟨e, g⟩ | ⟨e, g⟩
    · exact .inl ⟨j, x, g, h2⟩
    · rcases s.own a ⟨j, x, g, by rw [wipe_out e]; exact h2⟩ with q | q
      · exact .inl (own_wipe q)
      · exact .inr q
theorem ext_get {α : Type} : ∀ {a b : List α}, (∀ i : Nat, a[i]? = b[i]?) → a = b := fun h => List.ext_getElem? h
theorem wipe_eq {vs : List Nat} (h : ∀ j, j ∉ vs → σ2[j]? = σ[j]?) (hl : σ2.length = σ.length) : L2.wipe σ2 vs = L2.wipe σ vs := by
  have key : ∀ (τ : L2.St) (ws : List Nat) (j : Nat), j ∈ ws → (L2.wipe τ ws)[j]? = if j < τ.length then some none else none := by
    intro τ ws
    induction ws with
    | nil => intro j hj; simp at hj
    | cons w ws ih =>
      intro j hj
      unfold L2.wipe
      by_cases e : w = j
      · subst e
        by_cases z : w < τ.length
        · rw [if_pos z, List.getElem?_set_self (by rw [wipe_length]; exact z)]
        · rw [if_neg z, List.getElem?_eq_none (by rw [List.length_set, wipe_length]; omega)]
      · rw [List.getElem?_set_ne e]
        refine ih j ?_
        rcases List.mem_cons.mp hj with q | q
        · exact absurd q.symm e
        · exact q
  refine ext_get fun j => ?_
  by_cases e : j ∈ vs
  · rw [key σ2 vs j e, key σ vs j e, hl]
  · rw [wipe_out e, wipe_out e, h j e]
theorem wipe_wipe {vs : List Nat} : L2.wipe (L2.wipe σ vs) vs = L2.wipe σ vs := wipe_eq (fun j h => wipe_out h) (wipe_length _ _)
end

/-! ### readings -/
section
variable (K : PySem.W.Frag) (ct : Nat → Addr) (cl : CL)
def tD0 (e : XE) : TE := fun σ H Q => ∃ F as S M r S' M', Rel K ct F H as σ S M ∧ den cl e (S, M) = some (r, (S', M')) ∧
  ∀ F' H' as' v, Rel K ct F' H' as' σ S' M' → Stp F H as σ S F' H' as' σ S' → ResOk K H F' H' as' σ S' r v → Q v H'
def tD (e : XE) : TE := fun σ H Q => ∃ F as S M r S' M', Rel K ct F H as σ S M ∧ den cl e (S, M) = some (r, (S', M')) ∧
  ∀ F' H' as' v, Rel K ct F' H' as' σ S' M' → Stp F H as σ S F' H' as' σ S' → Rep K F' as' v r.d → Q v H'
def tDT (e : XE) : TT := fun σ H Q => ∃ F as S M k S' M', Rel K ct F H as σ S M ∧ denT cl (some e) (S, M) = some (k, (S', M')) ∧
  ∀ F' H' as', Rel K ct F' H' as' σ S' M' → Stp F H as σ S F' H' as' σ S' → Q k H'
def tDL (es : List XE) : TA := fun σ H Q => ∃ F as S M ds S' M', Rel K ct F H as σ S M ∧ denL cl es (S, M) = some (ds, (S', M')) ∧
  ∀ F' H' as' vs, Rel K ct F' H' as' σ S' M' → Stp F H as σ S F' H' as' σ S' → RepL K F' as' vs ds → Q vs H'
def tDO (e : Option XE) : TO := fun σ H Q => ∃ F as S M o S' M', Rel K ct F H as σ S M ∧ denO cl e (S, M) = some (o, (S', M')) ∧
  ∀ F' H' as', Rel K ct F' H' as' σ S' M' → Stp F H as σ S F' H' as' σ S' → Q o H'
/-- an iterator gives these items -/
def ItOk (F : Hp) (as : List Addr) (J : It) (xs : List D) : Prop :=
  ∀ {F1 H1 : Hp} {as1 : List Addr} {σ1 : L2.St} {S1 : List SV} {M1 : List MO}, Sub F F1 → Pre as as1 → Rel K ct F1 H1 as1 σ1 S1 M1 → ∀ i : Nat, (xs.length ≤ i → J.stop i H1) ∧
    ∀ d, xs[i]? = some d → J.go i H1 ∧ ∀ x H2, J.yld i H1 x H2 → ∃ F2, Rel K ct F2 H2 as1 σ1 S1 M1 ∧ Stp F1 H1 as1 σ1 S1 F2 H2 as1 σ1 S1 ∧ Rep K F2 as1 x d
def tDI (it : XI) : TI := fun σ H R => ∃ F as S M xs S' M', Rel K ct F H as σ S M ∧ denI cl it (S, M) = some (xs, (S', M')) ∧
  ∀ F' H' as' J, Rel K ct F' H' as' σ S' M' → Stp F H as σ S F' H' as' σ S' → ItOk K ct F' as' J xs → R J H'
def XG.slots : XG → List Nat
  | .nm i => [i]
  | .tup is => is
def tDG (g : XG) : TG := fun v σ H Q => ∃ F as S M d S', Rel K ct F H as σ S M ∧ Rep K F as v d ∧ setG g d S = some S' ∧
  ∀ F' H' as' σ', Rel K ct F' H' as' σ' S' M → Stp F H as σ S F' H' as' σ' S' → (∀ j, j ∉ g.slots → σ'[j]? = σ[j]?) → σ'.length = σ.length → Q σ' H'
end

section
variable {X : Cx} {ct : Nat → Addr} {cl : CL}
theorem _root_.L2.PE.weak {e : Expr} {t t' : TE} (h : PE X e t) (w : ∀ σ H Q, t' σ H Q → t σ H Q) : PE X e t' := ⟨fun pins s σ H Q I q => h.run pins s σ H Q I (w σ H Q q)⟩
theorem _root_.L2.PT.weak {e : Expr} {t t' : TT} (h : PT X e t) (w : ∀ σ H Q, t' σ H Q → t σ H Q) : PT X e t' := ⟨fun pins s σ H Q I q => h.run pins s σ H Q I (w σ H Q q)⟩
theorem _root_.L2.PW.weak {e : Expr} {t t' : TT} (h : PW X e t) (w : ∀ σ H Q, t' σ H Q → t σ H Q) : PW X e t' := ⟨fun wh pins s σ H Q I q => h.run wh pins s σ H Q I (w σ H Q q)⟩
theorem _root_.L2.PA.weak {e : List Expr} {t t' : TA} (h : PA X e t) (w : ∀ σ H Q, t' σ H Q → t σ H Q) : PA X e t' := ⟨fun pos pins s σ H Q I q => h.run pos pins s σ H Q I (w σ H Q q)⟩
theorem _root_.L2.PO.weak {e : Option Expr} {t t' : TO} (h : PO X e t) (w : ∀ σ H Q, t' σ H Q → t σ H Q) : PO X e t' := ⟨fun pins s σ H Q I q => h.run pins s σ H Q I (w σ H Q q)⟩
theorem _root_.L2.PI.weak {tg e : Expr} {t t' : TI} (h : PI X tg e t) (w : ∀ σ H Q, t' σ H Q → t σ H Q) : PI X tg e t' := ⟨fun pins s σ H Q I q => h.run pins s σ H Q I (w σ H Q q)⟩
theorem _root_.L2.PG.weak {e : Expr} {t t' : TG} (h : PG X e t) (w : ∀ v σ H Q, t' v σ H Q → t v σ H Q) : PG X e t' := ⟨fun pins s σ H v u Q I r q => h.run pins s σ H v u Q I r (w v σ H Q q)⟩
theorem _root_.L2.PS.weak {e : Stmt} {t t' : TS} (h : PS X e t) (w : ∀ D σ H, t' D σ H → t D σ H) : PS X e t' := ⟨fun pins s σ H D I q => h.run pins s σ H D I (w D σ H q)⟩
theorem _root_.L2.PSs.weak {e : List Stmt} {t t' : TS} (h : PSs X e t) (w : ∀ D σ H, t' D σ H → t D σ H) : PSs X e t' := ⟨fun pins s σ H D I q => h.run pins s σ H D I (w D σ H q)⟩

theorem _root_.L2.PE.giv {x : Expr} {e : XE} (h : PE X x (tD0 X.K ct cl e)) : PE X x (tD X.K ct cl e) := h.weak fun σ H Q ⟨F, as, S, M, r, S', M', rel, ev, q⟩ =>
  ⟨F, as, S, M, r, S', M', rel, ev, fun F' H' as' v rel' stp res => ResOk.given rel' stp res fun F2 rel2 stp2 rep => q F2 H' as' v rel2 stp2 rep⟩

/-! ### the simple ones -/
theorem d_const {x : Expr} {e : XE} {v : V} {d : D} (h : PE X x (tC v)) (he : ∀ s, den cl e s = some (.v d, s)) (hr : ∀ F as, Rep X.K F as v d) : PE X x (tD0 X.K ct cl e) := h.weak fun σ H Q ⟨F, as, S, M, r, S', M', rel, ev, q⟩ => by
  rw [he] at ev
  cases ev
  exact q F H as v rel Stp.refl (hr F as)
theorem d_var {x : Expr} {i : Nat} (h : PE X x (tVar i)) : PE X x (tD0 X.K ct cl (.var i)) := h.weak fun σ H Q ⟨F, as, S, M, r, S', M', rel, ev, q⟩ => by
  simp only [den, Option.map_eq_some_iff] at ev
  obtain ⟨⟨d, T⟩, e1, e2⟩ := ev
  cases e2
  unfold readV at e1
  split at e1
  · rename_i d' hd
    cases e1
    obtain ⟨v, h1, h2⟩ := rel.val i d hd
    exact ⟨v, h1, q F H as v rel Stp.refl h2⟩
  · rename_i ds hd
    cases e1
    obtain ⟨v, F', h1, h2, h3, h4⟩ := rel.freeze hd
    exact ⟨v, h1, q F' H as v h2 h3 h4⟩
  · cases e1
theorem d_bin {xa xb : Expr} {a b : XE} {pos : Pos} (op : BOp) (ha : PE X xa (tD0 X.K ct cl a)) (hb : PE X xb (tD0 X.K ct cl b)) : PE X (.BinOp xa op.py xb pos) (tD0 X.K ct cl (.bin op a b)) := by
  obtain ⟨r, ho, hs⟩ := opBin (X := X) ct op
  refine (pe_op ho ha.giv hb.giv).weak fun σ H Q ⟨F, as, S, M, z, S', M', rel, ev, q⟩ => ?_
  simp only [den, Option.bind_eq_some_iff, Option.map_eq_some_iff] at ev
  obtain ⟨⟨x, s1⟩, ea, ⟨y, s2⟩, eb, z', ez, e2⟩ := ev
  cases e2
  refine ⟨F, as, S, M, x, s1.1, s1.2, rel, ea, fun F1 H1 as1 v rel1 stp1 rep1 => ⟨F1, as1, s1.1, s1.2, y, S', M', rel1, eb, fun F2 H2 as2 w rel2 stp2 rep2 => hs rel2 (rep1.mono stp2.sub stp2.pre) rep2 ez fun F3 H3 u rel3 stp3 res => ?_⟩⟩
  exact q F3 H3 as2 u rel3 ((stp1.trans stp2).trans stp3) (res.back (stp1.trans stp2).kept)
theorem d_neg {xa : Expr} {a : XE} {pos : Pos} (ha : PE X xa (tD0 X.K ct cl a)) : PE X (.UnaryOp .USub xa pos) (tD0 X.K ct cl (.neg a)) := by
  refine (pe_un un_neg ha.giv).weak fun σ H Q ⟨F, as, S, M, z, S', M', rel, ev, q⟩ => ?_
  simp only [den, Option.bind_eq_some_iff] at ev
  obtain ⟨⟨x, s1⟩, ea, ev⟩ := ev
  refine ⟨F, as, S, M, x, s1.1, s1.2, rel, ea, fun F1 H1 as1 v rel1 stp1 rep1 => ?_⟩
  generalize x.d = dx at ev rep1
  cases rep1 <;> first | (cases ev; done) | skip
  cases ev
  exact ⟨_, rfl, q F1 H1 as1 _ rel1 stp1 (.int _)⟩
/-- the reading of a comparison -/
theorem cmp_read {a b : XE} {r : R2} {g : D → D → Option Bool} (hs : OpB X.K r g) {σ : L2.St} {H : Hp} {Q : VK} {F : Hp} {as : List Addr} {S : List SV} {M : List MO} {x y : R} {s1 s2 : DS} {k : Bool} (rel : Rel X.K ct F H as σ S M)
    (ea : den cl a (S, M) = some (x, s1)) (eb : den cl b s1 = some (y, s2)) (ek : g x.d y.d = some k)
    (q : ∀ F' H' as', Rel X.K ct F' H' as' σ s2.1 s2.2 → Stp F H as σ S F' H' as' σ s2.1 → Q (.bl k) H') : tOp r (tD X.K ct cl a) (tD X.K ct cl b) σ H Q :=
  ⟨F, as, S, M, x, s1.1, s1.2, rel, ea, fun F1 H1 as1 v rel1 stp1 rep1 => ⟨F1, as1, s1.1, s1.2, y, s2.1, s2.2, rel1, eb, fun F2 H2 as2 w rel2 stp2 rep2 =>
    hs rel2.sub (rep1.mono stp2.sub stp2.pre) rep2 ek (q F2 H2 as2 rel2 (stp1.trans stp2))⟩⟩
theorem d_cmp {xa xb : Expr} {a b : XE} {pos : Pos} (hu : X.A.units + 64 < cLine) (op : COp) (ha : PE X xa (tD0 X.K ct cl a)) (hb : PE X xb (tD0 X.K ct cl b)) (hm : behindInMarks op.py xb = false) :
    PE X (.Compare xa [op.py] [xb] pos) (tD0 X.K ct cl (.cmp op a b)) ∧ PT X (.Compare xa [op.py] [xb] pos) (tDT X.K ct cl (.cmp op a b)) := by
  obtain ⟨r, ho, hs⟩ := opCmp (X := X) hu op
  refine ⟨(pe_cmpR ho ha.giv hb.giv hm).weak fun σ H Q ⟨F, as, S, M, z, S', M', rel, ev, q⟩ => ?_, (pt_cmpR ho ha.giv hb.giv hm).weak fun σ H Q ⟨F, as, S, M, z, S', M', rel, ev, q⟩ => ?_⟩
  · simp only [den, Option.bind_eq_some_iff, Option.map_eq_some_iff] at ev
    obtain ⟨⟨x, s1⟩, ea, ⟨y, s2⟩, eb, k, ek, e2⟩ := ev
    cases e2
    exact cmp_read hs rel ea eb ek fun F' H' as' rel' stp' => q F' H' as' _ rel' stp' (.bl k)
  · simp only [denT, den, Option.bind_eq_some_iff, Option.map_eq_some_iff] at ev
    obtain ⟨⟨w, t⟩, ⟨⟨x, s1⟩, ea, ⟨y, s2⟩, eb, k, ek, e2⟩, k', e3, e4⟩ := ev
    cases e2
    cases e4
    cases e3
    exact cmp_read hs rel ea eb ek fun F' H' as' rel' stp' => ⟨_, rfl, q F' H' as' rel' stp'⟩
theorem chain_read {a b c : XE} {r r' : R2} {g g' : D → D → Option Bool} (hs : OpB X.K r g) (hs' : OpB X.K r' g') {σ : L2.St} {H : Hp} {Q : VK} {F : Hp} {as : List Addr} {S : List SV} {M : List MO} {x y : R} {s1 s2 s' : DS} {k k' : Bool} (rel : Rel X.K ct F H as σ S M)
    (ea : den cl a (S, M) = some (x, s1)) (eb : den cl b s1 = some (y, s2)) (ek : g x.d y.d = some k)
    (ec : (k = false ∧ s' = s2 ∧ k' = false) ∨ (k = true ∧ ∃ z, den cl c s2 = some (z, s') ∧ g' y.d z.d = some k'))
    (q : ∀ F' H' as', Rel X.K ct F' H' as' σ s'.1 s'.2 → Stp F H as σ S F' H' as' σ s'.1 → Q (.bl k') H') : tChain r r' (tD X.K ct cl a) (tD X.K ct cl b) (tD X.K ct cl c) σ H Q := by
  refine ⟨F, as, S, M, x, s1.1, s1.2, rel, ea, fun F1 H1 as1 v rel1 stp1 rep1 => ⟨F1, as1, s1.1, s1.2, y, s2.1, s2.2, rel1, eb, fun F2 H2 as2 w rel2 stp2 rep2 =>
    hs rel2.sub (rep1.mono stp2.sub stp2.pre) rep2 ek ⟨k, rfl, ?_⟩⟩⟩
  rcases ec with ⟨rfl, rfl, rfl⟩ | ⟨rfl, z, ez, ek'⟩
  · rw [if_neg Bool.false_ne_true]
    exact q F2 H2 as2 rel2 (stp1.trans stp2)
  · rw [if_pos rfl]
    exact ⟨F2, as2, s2.1, s2.2, z, s'.1, s'.2, rel2, ez, fun F3 H3 as3 u rel3 stp3 rep3 => hs' rel3.sub (rep2.mono stp3.sub stp3.pre) rep3 ek' (q F3 H3 as3 rel3 ((stp1.trans stp2).trans stp3))⟩
theorem d_chain {xa xb xc : Expr} {a b c : XE} {pos : Pos} (hu : X.A.units + 64 < cLine) (op op' : COp) (ha : PE X xa (tD0 X.K ct cl a)) (hb : PE X xb (tD0 X.K ct cl b)) (hc : PE X xc (tD0 X.K ct cl c)) (hm : lastMarks [op.py, op'.py] [xb, xc] = false) :
    PE X (.Compare xa [op.py, op'.py] [xb, xc] pos) (tD0 X.K ct cl (.chain op op' a b c)) ∧ PT X (.Compare xa [op.py, op'.py] [xb, xc] pos) (tDT X.K ct cl (.chain op op' a b c)) := by
  obtain ⟨r, ho, hs⟩ := opCmp (X := X) hu op
  obtain ⟨r', ho', hs'⟩ := opCmp (X := X) hu op'
  refine ⟨(pe_chain ho ho' ha.giv hb.giv hc.giv hm).weak fun σ H Q ⟨F, as, S, M, z, S', M', rel, ev, q⟩ => ?_, (pt_chain ho ho' ha.giv hb.giv hc.giv hm).weak fun σ H Q ⟨F, as, S, M, z, S', M', rel, ev, q⟩ => ?_⟩
  · simp only [den, Option.bind_eq_some_iff] at ev
    obtain ⟨⟨x, s1⟩, ea, ⟨y, s2⟩, eb, k, ek, e2⟩ := ev
    cases k with
    | false =>
      cases e2
      exact chain_read hs hs' rel ea eb ek (.inl ⟨rfl, rfl, rfl⟩) fun F' H' as' rel' stp' => q F' H' as' _ rel' stp' (.bl false)
    | true =>
      simp only [Option.bind_eq_some_iff, Option.map_eq_some_iff] at e2
      obtain ⟨⟨w, s3⟩, ec, k', ek', e3⟩ := e2
      cases e3
      exact chain_read hs hs' rel ea eb ek (.inr ⟨rfl, w, ec, ek'⟩) fun F' H' as' rel' stp' => q F' H' as' _ rel' stp' (.bl k')
  · simp only [denT, den, Option.bind_eq_some_iff, Option.map_eq_some_iff] at ev
    obtain ⟨⟨w0, t⟩, ⟨⟨x, s1⟩, ea, ⟨y, s2⟩, eb, k, ek, e2⟩, k0, e30, e40⟩ := ev
    cases k with
    | false =>
      cases e2
      cases e40
      cases e30
      exact chain_read hs hs' rel ea eb ek (.inl ⟨rfl, rfl, rfl⟩) fun F' H' as' rel' stp' => ⟨_, rfl, q F' H' as' rel' stp'⟩
    | true =>
      simp only [Option.bind_eq_some_iff, Option.map_eq_some_iff] at e2
      obtain ⟨⟨w, s3⟩, ec, k', ek', e3⟩ := e2
      cases e3
      cases e40
      cases e30
      exact chain_read hs hs' rel ea eb ek (.inr ⟨rfl, w, ec, ek'⟩) fun F' H' as' rel' stp' => ⟨_, rfl, q F' H' as' rel' stp'⟩
/-- a test that is a value's truth -/
theorem d_truth {x : Expr} {e : XE} (h : PE X x (tD0 X.K ct cl e)) (he : ∀ whole, isTrue x X.env whole = (do let v ← whole; standAt x.pos; holding [v] (truthy v))) : PT X x (tDT X.K ct cl e) :=
  (pt_truth h.giv he).weak fun σ H Q ⟨F, as, S, M, k, S', M', rel, ev, q⟩ => by
    simp only [denT, Option.bind_eq_some_iff, Option.map_eq_some_iff] at ev
    obtain ⟨⟨r, s1⟩, ea, k', ek, e2⟩ := ev
    cases e2
    exact ⟨F, as, S, M, r, S', M', rel, ea, fun F1 H1 as1 v rel1 stp1 rep1 => ⟨k, tru_rep rel1 rep1 ek, q F1 H1 as1 rel1 stp1⟩⟩
theorem d_no {xa : Expr} {a : XE} {pos : Pos} (ha : PE X xa (tD0 X.K ct cl a)) : PE X (.UnaryOp .Not xa pos) (tD0 X.K ct cl (.no a)) :=
  (pe_notT ha.giv).weak fun σ H Q ⟨F, as, S, M, z, S', M', rel, ev, q⟩ => by
    simp only [den, Option.bind_eq_some_iff, Option.map_eq_some_iff] at ev
    obtain ⟨⟨r, s1⟩, ea, k, ek, e2⟩ := ev
    cases e2
    exact ⟨F, as, S, M, r, S', M', rel, ea, fun F1 H1 as1 v rel1 stp1 rep1 => ⟨k, tru_rep rel1 rep1 ek, q F1 H1 as1 _ rel1 stp1 (.bl _)⟩⟩
theorem d_noT {xa : Expr} {a : XE} {pos : Pos} (ha : PT X xa (tDT X.K ct cl a)) : PT X (.UnaryOp .Not xa pos) (tDT X.K ct cl (.no a)) :=
  (pt_not ha).weak fun σ H Q ⟨F, as, S, M, z, S', M', rel, ev, q⟩ => by
    simp only [denT, den, Option.bind_eq_some_iff, Option.map_eq_some_iff] at ev
    obtain ⟨⟨r, s1⟩, ⟨⟨x, s0⟩, ea, k, ek, e2⟩, k', ek', e3⟩ := ev
    cases e2
    cases e3
    cases ek'
    refine ⟨F, as, S, M, k, S', M', rel, ?_, fun F1 H1 as1 rel1 stp1 => q F1 H1 as1 rel1 stp1⟩
    simp only [denT, ea, Option.bind_some, ek, Option.map_some]
theorem d_and {xa xb : Expr} {rest : List Expr} {a b : XE} {pos : Pos} (ha : PE X xa (tD0 X.K ct cl a)) (hb : PE X (.BoolOp .And (xb :: rest) pos) (tD0 X.K ct cl b)) : PE X (.BoolOp .And (xa :: xb :: rest) pos) (tD0 X.K ct cl (.and a b)) :=
  (pe_andT ha.giv hb.giv).weak fun σ H Q ⟨F, as, S, M, z, S', M', rel, ev, q⟩ => by
    simp only [den, Option.bind_eq_some_iff] at ev
    obtain ⟨⟨r, s1⟩, ea, k, ek, e2⟩ := ev
    refine ⟨F, as, S, M, r, s1.1, s1.2, rel, ea, fun F1 H1 as1 v rel1 stp1 rep1 => ⟨k, tru_rep rel1 rep1 ek, ?_⟩⟩
    cases k with
    | false =>
      cases e2
      rw [if_neg Bool.false_ne_true]
      exact q F1 H1 as1 _ rel1 stp1 rep1
    | true =>
      rw [if_pos rfl]
      simp only [Option.map_eq_some_iff] at e2
      obtain ⟨⟨w, s2⟩, eb, e3⟩ := e2
      cases e3
      exact ⟨F1, as1, s1.1, s1.2, w, S', M', rel1, eb, fun F2 H2 as2 u rel2 stp2 rep2 => q F2 H2 as2 u rel2 (stp1.trans stp2) rep2⟩
theorem d_or {xa xb : Expr} {rest : List Expr} {a b : XE} {pos : Pos} (ha : PE X xa (tD0 X.K ct cl a)) (hb : PE X (.BoolOp .Or (xb :: rest) pos) (tD0 X.K ct cl b)) : PE X (.BoolOp .Or (xa :: xb :: rest) pos) (tD0 X.K ct cl (.or a b)) :=
  (pe_orT ha.giv hb.giv).weak fun σ H Q ⟨F, as, S, M, z, S', M', rel, ev, q⟩ => by
    simp only [den, Option.bind_eq_some_iff] at ev
    obtain ⟨⟨r, s1⟩, ea, k, ek, e2⟩ := ev
    refine ⟨F, as, S, M, r, s1.1, s1.2, rel, ea, fun F1 H1 as1 v rel1 stp1 rep1 => ⟨k, tru_rep rel1 rep1 ek, ?_⟩⟩
    cases k with
    | true =>
      cases e2
      rw [if_pos rfl]
      exact q F1 H1 as1 _ rel1 stp1 rep1
    | false =>
      rw [if_neg Bool.false_ne_true]
      simp only [Option.map_eq_some_iff] at e2
      obtain ⟨⟨w, s2⟩, eb, e3⟩ := e2
      cases e3
      exact ⟨F1, as1, s1.1, s1.2, w, S', M', rel1, eb, fun F2 H2 as2 u rel2 stp2 rep2 => q F2 H2 as2 u rel2 (stp1.trans stp2) rep2⟩
theorem d_andT {xa xb : Expr} {rest : List Expr} {a b : XE} {pos : Pos} (ha : PT X xa (tDT X.K ct cl a)) (hb : PW X (.BoolOp .And (xb :: rest) pos) (tDT X.K ct cl b)) : PW X (.BoolOp .And (xa :: xb :: rest) pos) (tDT X.K ct cl (.and a b)) :=
  (pw_and ha hb).weak fun σ H Q ⟨F, as, S, M, z, S', M', rel, ev, q⟩ => by
    simp only [denT, den, Option.bind_eq_some_iff, Option.map_eq_some_iff] at ev
    obtain ⟨⟨r, s1⟩, ⟨⟨x, s0⟩, ea, k, ek, e2⟩, k', ek', e3⟩ := ev
    cases e3
    refine ⟨F, as, S, M, k, s0.1, s0.2, rel, ?_, fun F1 H1 as1 rel1 stp1 => ?_⟩
    · simp only [denT, ea, Option.bind_some, ek, Option.map_some]
    · cases k with
      | false =>
        cases e2
        have e : some z = some false := ek'.symm.trans ek
        cases e
        rw [if_neg Bool.false_ne_true]
        exact q F1 H1 as1 rel1 stp1
      | true =>
        rw [if_pos rfl]
        simp only [Option.map_eq_some_iff] at e2
        obtain ⟨⟨w, s2⟩, eb, e3⟩ := e2
        cases e3
        refine ⟨F1, as1, s0.1, s0.2, z, S', M', rel1, ?_, fun F2 H2 as2 rel2 stp2 => q F2 H2 as2 rel2 (stp1.trans stp2)⟩
        have eb' : den cl b s0 = some (w, (S', M')) := eb
        simp only [denT, eb', Option.bind_some]
        have ek2 : truD M' w.d = some z := ek'
        rw [ek2]
        rfl
theorem d_orT {xa xb : Expr} {rest : List Expr} {a b : XE} {pos : Pos} (ha : PT X xa (tDT X.K ct cl a)) (hb : PW X (.BoolOp .Or (xb :: rest) pos) (tDT X.K ct cl b)) : PW X (.BoolOp .Or (xa :: xb :: rest) pos) (tDT X.K ct cl (.or a b)) :=
  (pw_or ha hb).weak fun σ H Q ⟨F, as, S, M, z, S', M', rel, ev, q⟩ => by
    simp only [denT, den, Option.bind_eq_some_iff, Option.map_eq_some_iff] at ev
    obtain ⟨⟨r, s1⟩, ⟨⟨x, s0⟩, ea, k, ek, e2⟩, k', ek', e3⟩ := ev
    cases e3
    refine ⟨F, as, S, M, k, s0.1, s0.2, rel, ?_, fun F1 H1 as1 rel1 stp1 => ?_⟩
    · simp only [denT, ea, Option.bind_some, ek, Option.map_some]
    · cases k with
      | true =>
        cases e2
        have e : some z = some true := ek'.symm.trans ek
        cases e
        rw [if_pos rfl]
        exact q F1 H1 as1 rel1 stp1
      | false =>
        rw [if_neg Bool.false_ne_true]
        simp only [Option.map_eq_some_iff] at e2
        obtain ⟨⟨w, s2⟩, eb, e3⟩ := e2
        cases e3
        refine ⟨F1, as1, s0.1, s0.2, z, S', M', rel1, ?_, fun F2 H2 as2 rel2 stp2 => q F2 H2 as2 rel2 (stp1.trans stp2)⟩
        have eb' : den cl b s0 = some (w, (S', M')) := eb
        simp only [denT, eb', Option.bind_some]
        have ek2 : truD M' w.d = some z := ek'
        rw [ek2]
        rfl
theorem d_ite {xc xa xb : Expr} {c a b : XE} {pos : Pos} (hc : PT X xc (tDT X.K ct cl c)) (ha : PE X xa (tD0 X.K ct cl a)) (hb : PE X xb (tD0 X.K ct cl b)) : PE X (.IfExp xc xa xb pos) (tD0 X.K ct cl (.ite c a b)) :=
  (pe_ifExp hc ha.giv hb.giv).weak fun σ H Q ⟨F, as, S, M, z, S', M', rel, ev, q⟩ => by
    simp only [den, Option.bind_eq_some_iff] at ev
    obtain ⟨⟨r, s1⟩, ec, k, ek, e2⟩ := ev
    refine ⟨F, as, S, M, k, s1.1, s1.2, rel, ?_, fun F1 H1 as1 rel1 stp1 => ?_⟩
    · simp only [denT, ec, Option.bind_some, ek, Option.map_some]
    · cases k with
      | true =>
        rw [if_pos rfl]
        simp only [Option.map_eq_some_iff] at e2
        obtain ⟨⟨w, s2⟩, eb, e3⟩ := e2
        cases e3
        exact ⟨F1, as1, s1.1, s1.2, w, S', M', rel1, eb, fun F2 H2 as2 u rel2 stp2 rep2 => q F2 H2 as2 u rel2 (stp1.trans stp2) rep2⟩
      | false =>
        rw [if_neg Bool.false_ne_true]
        simp only [Option.map_eq_some_iff] at e2
        obtain ⟨⟨w, s2⟩, eb, e3⟩ := e2
        cases e3
        exact ⟨F1, as1, s1.1, s1.2, w, S', M', rel1, eb, fun F2 H2 as2 u rel2 stp2 rep2 => q F2 H2 as2 u rel2 (stp1.trans stp2) rep2⟩

/-! ### argument lists, displays -/
theorem d_nil : PA X [] (tDL X.K ct cl []) := pa_nil.weak fun σ H Q ⟨F, as, S, M, ds, S', M', rel, ev, q⟩ => by
  simp only [denL] at ev
  cases ev
  exact q F H as [] rel Stp.refl .nil
theorem d_cons {x : Expr} {xs : List Expr} {e : XE} {es : List XE} (h : PE X x (tD0 X.K ct cl e)) (hs : PA X xs (tDL X.K ct cl es)) (hst : starEach (x :: xs) X.env = (false, eval x X.env) :: starEach xs X.env) : PA X (x :: xs) (tDL X.K ct cl (e :: es)) :=
  (pa_cons h.giv hs hst).weak fun σ H Q ⟨F, as, S, M, ds, S', M', rel, ev, q⟩ => by
    simp only [denL, Option.bind_eq_some_iff, Option.map_eq_some_iff] at ev
    obtain ⟨⟨r, s1⟩, ea, ⟨rs, s2⟩, eb, e2⟩ := ev
    cases e2
    exact ⟨F, as, S, M, r, s1.1, s1.2, rel, ea, fun F1 H1 as1 v rel1 stp1 rep1 => ⟨F1, as1, s1.1, s1.2, rs, S', M', rel1, eb, fun F2 H2 as2 vs rel2 stp2 rep2 => q F2 H2 as2 (v :: vs) rel2 (stp1.trans stp2) (.cons (rep1.mono stp2.sub stp2.pre) rep2)⟩⟩
theorem d_tup {xs : List Expr} {es : List XE} {k : Nat} {pos : Pos} (h : PA X xs (tDL X.K ct cl es)) : PE X (.Tuple xs k pos) (tD0 X.K ct cl (.tup es)) :=
  (pe_tup h).weak fun σ H Q ⟨F, as, S, M, z, S', M', rel, ev, q⟩ => by
    simp only [den, Option.bind_eq_some_iff] at ev
    obtain ⟨⟨ds, s1⟩, ea, e2⟩ := ev
    split at e2
    · rename_i hl
      cases e2
      refine ⟨F, as, S, M, ds, S', M', rel, ea, fun F1 H1 as1 vs rel1 stp1 rep1 => ⟨by rw [rep1.length]; exact hl, fun p hp => ?_⟩⟩
      exact new_tup rel1 hp rep1 fun F2 H2 u rel2 stp2 res => q F2 H2 as1 u rel2 (stp1.trans stp2) (res.back stp1.kept)
    · cases e2
theorem d_lst {xs : List Expr} {es : List XE} {pos : Pos} (h : PA X xs (tDL X.K ct cl es)) : PE X (.List xs pos) (tD0 X.K ct cl (.lst es)) :=
  (pe_lst h).weak fun σ H Q ⟨F, as, S, M, z, S', M', rel, ev, q⟩ => by
    simp only [den, Option.bind_eq_some_iff] at ev
    obtain ⟨⟨ds, s1⟩, ea, e2⟩ := ev
    split at e2
    · rename_i hl
      cases e2
      refine ⟨F, as, S, M, ds, S', M', rel, ea, fun F1 H1 as1 vs rel1 stp1 rep1 => ⟨by rw [rep1.length]; exact hl, fun p hp => ?_⟩⟩
      exact new_list rel1 hp rep1 fun F2 H2 u rel2 stp2 res => q F2 H2 as1 u rel2 (stp1.trans stp2) (res.back stp1.kept)
    · cases e2

/-! ### subscripts, slices -/
theorem d_idx {xa xb : Expr} {a b : XE} {pos : Pos} (ha : PE X xa (tD0 X.K ct cl a)) (hb : PE X xb (tD0 X.K ct cl b)) (hs : PlainIx xb) : PE X (.Subscript xa xb pos) (tD0 X.K ct cl (.idx a b)) :=
  (pe_ix (opIdx ct).1 ha.giv hb.giv hs).weak fun σ H Q ⟨F, as, S, M, z, S', M', rel, ev, q⟩ => by
    simp only [den, Option.bind_eq_some_iff, Option.map_eq_some_iff] at ev
    obtain ⟨⟨x, s1⟩, ea, ⟨y, s2⟩, eb, z', ez, e2⟩ := ev
    cases e2
    exact ⟨F, as, S, M, x, s1.1, s1.2, rel, ea, fun F1 H1 as1 v rel1 stp1 rep1 => ⟨F1, as1, s1.1, s1.2, y, S', M', rel1, eb, fun F2 H2 as2 w rel2 stp2 rep2 =>
      (opIdx ct).2 rel2 (rep1.mono stp2.sub stp2.pre) rep2 ez fun u ru => q F2 H2 as2 u rel2 (stp1.trans stp2) ru⟩⟩
theorem readO_some {i : Nat} {S : List SV} {ds : List D} (h : readO i S = some ds) : S[i]? = some (.own ds) := by
  unfold readO at h
  split at h
  · cases h; assumption
  · cases h
theorem d_idxO {xa xb : Expr} {i : Nat} {b : XE} {pos : Pos} (ha : PE X xa (tVar i)) (hb : PE X xb (tD0 X.K ct cl b)) (hs : PlainIx xb) : PE X (.Subscript xa xb pos) (tD0 X.K ct cl (.idxO i b)) :=
  (pe_ix ix_list ha hb.giv hs).weak fun σ H Q ⟨F, as, S, M, z, S', M', rel, ev, q⟩ => by
    simp only [den, Option.bind_eq_some_iff, Option.map_eq_some_iff] at ev
    obtain ⟨xs0, ex0, ⟨y, s1⟩, eb, xs, ex, z', ez, e2⟩ := ev
    cases e2
    obtain ⟨a0, _, hv, _⟩ := rel.own i xs0 (readO_some ex0)
    refine ⟨.ref a0, hv, F, as, S, M, y, S', M', rel, eb, fun F1 H1 as1 w rel1 stp1 rep1 => ?_⟩
    obtain ⟨a, vs, h1, h2, h3, h4, h5⟩ := rel1.own i xs (readO_some ex)
    rw [hv] at h1
    cases h1
    generalize y.d = dy at ez rep1
    cases rep1 <;> simp only [idxD] at ez <;> first | (cases ez; done) | skip
    obtain ⟨u, hu, ru⟩ := atI_rep h3 ez
    exact ⟨a0, vs, _, u, rfl, rfl, SqL.of h2, hu, q F1 H1 as1 u rel1 stp1 ru⟩
end
end DL

end
section
/-! DE: readings of expressions, further: slices, calls, comprehensions, what is walked, targets. -/
namespace DL
open PySem PySem.Spec L2

section
variable {X : Cx} {ct : Nat → Addr} {cl : CL}
theorem d_ono : PO X none (tDO X.K ct cl none) := po_none.weak fun σ H Q ⟨F, as, S, M, o, S', M', rel, ev, q⟩ => by
  simp only [denO] at ev
  cases ev
  exact q F H as rel Stp.refl
theorem d_osome {x : Expr} {e : XE} (h : PE X x (tD0 X.K ct cl e)) : PO X (some x) (tDO X.K ct cl (some e)) := (po_some h.giv).weak fun σ H Q ⟨F, as, S, M, o, S', M', rel, ev, q⟩ => by
  simp only [denO, Option.bind_eq_some_iff] at ev
  obtain ⟨⟨r, s1⟩, ea, e2⟩ := ev
  refine ⟨F, as, S, M, r, s1.1, s1.2, rel, ea, fun F1 H1 as1 v rel1 stp1 rep1 => ?_⟩
  generalize r.d = d at e2 rep1
  cases rep1 <;> first | (cases e2; done) | skip
  cases e2
  exact ⟨_, rfl, q F1 H1 as1 rel1 stp1⟩
theorem d_slc {xa : Expr} {a : XE} {xlo xhi : Option Expr} {lo hi : Option XE} {pos p2 : Pos} (ha : PE X xa (tD0 X.K ct cl a)) (hl : PO X xlo (tDO X.K ct cl lo)) (hh : PO X xhi (tDO X.K ct cl hi)) :
    PE X (.Subscript xa (.Slice xlo xhi none p2) pos) (tD0 X.K ct cl (.slc a lo hi)) :=
  (pe_slice opSlc ha.giv hl hh).weak fun σ H Q ⟨F, as, S, M, z, S', M', rel, ev, q⟩ => by
    simp only [den, Option.bind_eq_some_iff, Option.map_eq_some_iff] at ev
    obtain ⟨⟨x, s1⟩, ea, ⟨l, s2⟩, el, ⟨h, s3⟩, eh, z', ez, e2⟩ := ev
    cases e2
    exact ⟨F, as, S, M, x, s1.1, s1.2, rel, ea, fun F1 H1 as1 v rel1 stp1 rep1 => ⟨F1, as1, s1.1, s1.2, l, s2.1, s2.2, rel1, el, fun F2 H2 as2 rel2 stp2 => ⟨F2, as2, s2.1, s2.2, h, S', M', rel2, eh, fun F3 H3 as3 rel3 stp3 =>
      slc_ok rel3 (rep1.mono (stp2.trans stp3).sub (stp2.trans stp3).pre) ez fun F4 H4 u rel4 stp4 res => q F4 H4 as3 u rel4 (((stp1.trans stp2).trans stp3).trans stp4) (res.back ((stp1.trans stp2).trans stp3).kept)⟩⟩⟩
theorem d_rev {xa : Expr} {a : XE} {k : Nat} {p1 p2 p3 pos : Pos} (ha : PE X xa (tD0 X.K ct cl a)) : PE X (.Subscript xa (.Slice none none (some (.UnaryOp .USub (.Constant (.int 1) k p1) p2)) p3) pos) (tD0 X.K ct cl (.rev a)) :=
  (pe_revL ha.giv).weak fun σ H Q ⟨F, as, S, M, z, S', M', rel, ev, q⟩ => by
    simp only [den, Option.bind_eq_some_iff, Option.map_eq_some_iff] at ev
    obtain ⟨⟨x, s1⟩, ea, z', ez, e2⟩ := ev
    cases e2
    refine ⟨F, as, S, M, x, S', M', rel, ea, fun F1 H1 as1 v rel1 stp1 rep1 => ?_⟩
    generalize x.d = d at ez rep1
    cases rep1 <;> simp only [revD] at ez <;> first | (cases ez; done) | skip
    · rename_i p vs ds h1 r1
      cases ez
      exact ⟨p, vs, rfl, SqL.of (rel1.sub _ _ h1), fun l hl => new_list rel1 hl r1.reverse fun F2 H2 u rel2 stp2 res => q F2 H2 as1 u rel2 (stp1.trans stp2) (res.back stp1.kept)⟩
    · rename_i p vs ds h1 r1
      cases ez
      exact ⟨p, vs, rfl, rel1.sub.l h1, fun l hl => new_list rel1 hl r1.reverse fun F2 H2 u rel2 stp2 res => q F2 H2 as1 u rel2 (stp1.trans stp2) (res.back stp1.kept)⟩
/-- the promise of a def by its meaning -/
def spD (K : PySem.W.Frag) (ct : Nat → Addr) (cl : CL) (f : String) (n : Nat) : Sp := fun vs H Q _ => ∃ F as M ds d M', Rel K ct F H as [] [] M ∧ RepL K F as vs ds ∧ ds.length = n ∧ cl f ds M = some (d, M') ∧
  ∀ F' H' as' v, Rel K ct F' H' as' [] [] M' → Stp F H as [] [] F' H' as' [] [] → Rep K F' as' v d → Q v H'
theorem call_read {σ : L2.St} {H : Hp} {Q : VK} {E : XK} {es : List XE} {f : String} {n : Nat} (hn : es.length = n) (h : tD0 X.K ct cl (.call f es) σ H Q) : tCall (spD X.K ct cl f n) [] E (tDL X.K ct cl es) σ H Q := by
  obtain ⟨F, as, S, M, z, S', M', rel, ev, q⟩ := h
  simp only [den, Option.bind_eq_some_iff, Option.map_eq_some_iff] at ev
  obtain ⟨⟨ds, s1⟩, ea, ⟨d, M2⟩, ec, e2⟩ := ev
  cases e2
  refine ⟨F, as, S, M, ds, s1.1, s1.2, rel, ea, fun F1 H1 as1 vs rel1 stp1 rep1 => ⟨F1, as1, s1.2, ds, d, _, rel1.bare, by rw [List.append_nil]; exact rep1, ?_, ec, fun F2 H2 as2 v rel2 stp2 rep2 => ?_⟩⟩
  · have key : ∀ (es : List XE) (s : DS) (ds : List D) (t : DS), denL cl es s = some (ds, t) → ds.length = es.length := by
      intro es
      induction es with
      | nil => intro s ds t h; simp only [denL] at h; cases h; rfl
      | cons e es ih =>
        intro s ds t h
        simp only [denL, Option.bind_eq_some_iff, Option.map_eq_some_iff] at h
        obtain ⟨⟨r, s1⟩, _, ⟨rs, s2⟩, eb, e2⟩ := h
        cases e2
        simp [ih _ _ _ eb]
    rw [key es _ ds _ ea]
    exact hn
  · obtain ⟨rel3, stp3⟩ := rel1.frame rel2 stp2
    exact q F2 H2 as2 v rel3 (stp1.trans stp3) rep2
theorem bi_read {p : Bi} {r : List V → Hp → VK → Prop} (hs : CallS X.K ct p r) {σ : L2.St} {H : Hp} {Q : VK} {e : XE} (h : tD0 X.K ct cl (.bi p e) σ H Q) : tD X.K ct cl e σ H fun v H' => r (p.vs v) H' Q := by
  obtain ⟨F, as, S, M, z, S', M', rel, ev, q⟩ := h
  simp only [den, Option.bind_eq_some_iff, Option.map_eq_some_iff] at ev
  obtain ⟨⟨x, s1⟩, ea, z', ez, e2⟩ := ev
  cases e2
  exact ⟨F, as, S, M, x, S', M', rel, ea, fun F1 H1 as1 v rel1 stp1 rep1 => hs rel1 rep1 ez fun F2 H2 u rel2 stp2 res => q F2 H2 as1 u rel2 (stp1.trans stp2) (res.back stp1.kept)⟩
theorem d_bi1 {f : Bi} {xa : Expr} {a : XE} {p pos : Pos} (hc : X.calm = true) (hp : f.ty = none) (hg : Gl X f.py.1) (hm : X.mg f.py.1 = none) (ha : PE X xa (tD0 X.K ct cl a)) (na : starEach [xa] X.env = (false, eval xa X.env) :: starEach [] X.env) :
    PE X (.Call (.Name f.py.1 p) [xa] [] pos) (tD0 X.K ct cl (.bi f a)) := by
  obtain ⟨r, hr, hs⟩ := opBi (X := X) hc ct f
  have core : PE X (.Call (.Name f.py.1 p) [xa] [] pos) (tCB r (tCons (tD X.K ct cl a) tNil)) := by
    cases f <;> first | (cases hp; done) | skip
    · exact pe_callB hr hg hm PySem.boot_len (pa_cons ha.giv pa_nil na) (he := na)
    · exact pe_callTy hr hg hm (by decide +kernel) (pa_cons ha.giv pa_nil na) (he := na)
    · exact pe_callTy hr hg hm (by decide +kernel) (pa_cons ha.giv pa_nil na) (he := na)
    · exact pe_callB hr hg hm (by decide +kernel) (pa_cons ha.giv pa_nil na) (he := na)
    · exact pe_callB hr hg hm (by decide +kernel) (pa_cons ha.giv pa_nil na) (he := na)
    · exact pe_callTy hr hg hm (by decide +kernel) (pa_cons ha.giv pa_nil na) (he := na)
    · exact pe_callTy hr hg hm (by decide +kernel) (pa_cons ha.giv pa_nil na) (he := na)
  refine core.weak fun σ H Q h => ?_
  have e : ∀ v, f.vs v = [v] := fun v => by unfold Bi.vs; rw [hp]
  have h' := bi_read hs h
  simp only [e] at h'
  exact h'
theorem d_bi2 {f : Bi} {t : String} {xa : Expr} {a : XE} {p pt pos : Pos} (hc : X.calm = true) (hp : f.ty = some t) (hg : Gl X "isinstance") (hm : X.mg "isinstance" = none) (hgt : Gl X (Str.ofString t)) (hmt : X.mg (Str.ofString t) = none)
    (ha : PE X xa (tD0 X.K ct cl a)) (na : starEach [xa, .Name (Str.ofString t) pt] X.env = (false, eval xa X.env) :: starEach [.Name (Str.ofString t) pt] X.env) :
    PE X (.Call (.Name "isinstance" p) [xa, .Name (Str.ofString t) pt] [] pos) (tD0 X.K ct cl (.bi f a)) := by
  obtain ⟨r, hr, hs⟩ := opBi (X := X) hc ct f
  have core : PE X (.Call (.Name "isinstance" p) [xa, .Name (Str.ofString t) pt] [] pos) (tCB r (tCons (tD X.K ct cl a) (tCons (tC (.ty t)) tNil))) := by
    cases f <;> first | (cases hp; done) | skip
    all_goals
      cases hp
      exact pe_callB hr hg hm (by decide +kernel) (pa_cons ha.giv (pa_cons (pe_bltn hgt hmt (by decide +kernel) rfl (by decide +kernel) (by decide +kernel)) pa_nil) na) (he := na)
  refine core.weak fun σ H Q h => ?_
  have e : ∀ v, f.vs v = [v, .ty t] := fun v => by unfold Bi.vs; rw [hp]
  have h' := bi_read hs h
  simp only [e] at h'
  exact h'
theorem d_lenO {i : Nat} {xa : Expr} {p pos : Pos} (hg : Gl X "len") (hm : X.mg "len" = none) (ha : PE X xa (tVar i)) (na : starEach [xa] X.env = (false, eval xa X.env) :: starEach [] X.env) : PE X (.Call (.Name "len" p) [xa] [] pos) (tD0 X.K ct cl (.lenO i)) :=
  (pe_callB call_len_seq hg hm PySem.boot_len (pa_cons ha pa_nil na) (he := na)).weak fun σ H Q ⟨F, as, S, M, z, S', M', rel, ev, q⟩ => by
    simp only [den, Option.map_eq_some_iff] at ev
    obtain ⟨xs, ex, e2⟩ := ev
    cases e2
    obtain ⟨a, vs, h1, h2, h3, _⟩ := rel.own i xs (readO_some ex)
    refine ⟨.ref a, h1, a, vs, rfl, .inl (SqL.of h2), ?_⟩
    rw [h3.length]
    exact q F H as _ rel Stp.refl (.int _)
theorem rng_rep {K : PySem.W.Frag} {F : Hp} {as : List Addr} (lo : Int) (n : Nat) : RepL K F as ((List.range n).map fun i => V.int (lo + (i : Nat))) (rngL lo n) := by
  unfold rngL
  generalize List.range n = l
  induction l with
  | nil => exact .nil
  | cons x l ih => exact .cons (.int _) ih
theorem d_lrng {xa : Expr} {a : XE} {p p2 pos pos2 : Pos} (hc : X.calm = true) (hg : Gl X "list") (hm : X.mg "list" = none) (hg2 : Gl X "range") (hm2 : X.mg "range" = none) (ha : PE X xa (tD0 X.K ct cl a)) (na : starEach [xa] X.env = (false, eval xa X.env) :: starEach [] X.env) :
    PE X (.Call (.Name "list" p) [.Call (.Name "range" p2) [xa] [] pos2] [] pos) (tD0 X.K ct cl (.lrng a)) :=
  (pe_listRg hc hg hm (prg_1 hg2 hm2 ha.giv na)).weak fun σ H Q ⟨F, as, S, M, z, S', M', rel, ev, q⟩ => by
    simp only [den, Option.bind_eq_some_iff] at ev
    obtain ⟨⟨x, s1⟩, ea, e2⟩ := ev
    refine ⟨F, as, S, M, x, s1.1, s1.2, rel, ea, fun F1 H1 as1 v rel1 stp1 rep1 => ?_⟩
    generalize x.d = d at e2 rep1
    cases rep1 <;> first | (cases e2; done) | skip
    rename_i n
    dsimp only at e2
    split at e2
    · rename_i hn
      cases e2
      refine ⟨n, rfl, ⟨by decide, by decide, hn.1, by omega, by have := hn.2; omega⟩, fun l hl => ?_⟩
      have e : rgV 0 n = (List.range n.toNat).map fun i => V.int (0 + (i : Nat)) := by unfold rgV; rw [Int.sub_zero]
      rw [e]
      exact new_list rel1 hl (rng_rep 0 n.toNat) fun F2 H2 u rel2 stp2 res => q F2 H2 as1 u rel2 (stp1.trans stp2) (res.back stp1.kept)
    · cases e2
theorem ndxAt_spec {y : V} : ∀ {xs : List V} {k j : Nat}, ndxAt y xs k = some j → ∃ m, j = k + m ∧ (∃ z, xs[m]? = some z ∧ eqV z y = true) ∧ ∀ (i : Nat) (z : V), i < m → xs[i]? = some z → eqV z y = false
  | [], k, j, h => by simp [ndxAt] at h
  | x :: r, k, j, h => by
    unfold ndxAt at h
    split at h
    · rename_i he
      cases h
      exact ⟨0, rfl, ⟨x, rfl, he⟩, fun i z hi => absurd hi (Nat.not_lt_zero _)⟩
    · rename_i he
      obtain ⟨m, rfl, ⟨z, h1, h2⟩, h3⟩ := ndxAt_spec h
      refine ⟨m + 1, by omega, ⟨z, by simpa using h1, h2⟩, fun i z' hi hz => ?_⟩
      cases i with
      | zero =>
        have e : x = z' := by simpa using hz
        subst e
        simpa using he
      | succ i => exact h3 i z' (by omega) (by simpa using hz)
theorem d_ndx {xa xb : Expr} {a b : XE} {ap pos : Pos} (ha : PE X xa (tD0 X.K ct cl a)) (hb : PE X xb (tD0 X.K ct cl b)) (nb : starEach [xb] X.env = (false, eval xb X.env) :: starEach [] X.env)
    (hbase : attributeBase xa "index" X.env (eval xa X.env) = eval xa X.env) (hline : (ap.endLine == pos.line) = true) : PE X (.Call (.Attribute xa "index" ap) [xb] [] pos) (tD0 X.K ct cl (.ndx a b)) :=
  (pe_bm PySem.F.plainAttrs_list PySem.F.slot_list_index PySem.F.type_list_index mt_index ha.giv (pa_cons hb.giv pa_nil nb) hbase (by rw [nb]; rfl) hline nb).weak fun σ H Q ⟨F, as, S, M, z, S', M', rel, ev, q⟩ => by
    simp only [den, Option.bind_eq_some_iff, Option.map_eq_some_iff] at ev
    obtain ⟨⟨x, s1⟩, ea, ⟨y, s2⟩, eb, z', ez, e2⟩ := ev
    cases e2
    refine ⟨F, as, S, M, x, s1.1, s1.2, rel, ea, fun F1 H1 as1 v rel1 stp1 rep1 => ?_⟩
    generalize x.d = dx at ez rep1
    cases rep1 <;> simp only [ndxD] at ez <;> first | (cases ez; done) | skip
    rename_i p vs ds h1 r1
    split at ez
    · rename_i hf
      rw [Bool.and_eq_true] at hf
      obtain ⟨j, ej, rfl⟩ := Option.map_eq_some_iff.mp ez
      refine ⟨.inl ⟨rfl, vs, SqL.of (rel1.sub _ _ h1)⟩, F1, as1, s1.1, s1.2, y, S', M', rel1, eb, fun F2 H2 as2 w rel2 stp2 rep2 => ?_⟩
      obtain ⟨e1, e2⟩ := rep2.flat hf.1
      obtain ⟨e3, e4⟩ := r1.flat hf.2
      subst e3
      obtain ⟨m, e5, ⟨zz, h2, h3⟩, h4⟩ := ndxAt_spec ej
      have e6 : j = m := by omega
      subst e6
      refine ⟨p, _, w, j, zz, rfl, rfl, SqL.of (rel2.sub _ _ (stp2.sub _ _ h1)), e2, e4, h2, ?_, ?_, q F2 H2 as2 _ rel2 (stp1.trans stp2) (.int _)⟩
      · rw [e1]; exact h3
      · intro i z' hi hz
        rw [e1]
        exact h4 i z' hi hz
    · cases ez
theorem d_popO {xa xb : Expr} {i : Nat} {b : XE} {ap pos : Pos} (ha : PE X xa (tVar i)) (hb : PE X xb (tD0 X.K ct cl b)) (nb : starEach [xb] X.env = (false, eval xb X.env) :: starEach [] X.env)
    (hbase : attributeBase xa "pop" X.env (eval xa X.env) = eval xa X.env) (hline : (ap.endLine == pos.line) = true) : PE X (.Call (.Attribute xa "pop" ap) [xb] [] pos) (tD0 X.K ct cl (.popO i b)) :=
  (pe_bm PySem.F.plainAttrs_list PySem.F.slot_list_pop PySem.F.type_list_pop mt_popAt ha (pa_cons hb.giv pa_nil nb) hbase (by rw [nb]; rfl) hline nb).weak fun σ H Q ⟨F, as, S, M, z, S', M', rel, ev, q⟩ => by
    simp only [den, Option.bind_eq_some_iff] at ev
    obtain ⟨xs0, ex0, ⟨y, s1⟩, eb, xs, ex, e2⟩ := ev
    obtain ⟨a0, vs0, hv, hH0, _⟩ := rel.own i xs0 (readO_some ex0)
    refine ⟨.ref a0, hv, .inl ⟨rfl, vs0, SqL.of hH0⟩, F, as, S, M, y, s1.1, s1.2, rel, eb, fun F1 H1 as1 w rel1 stp1 rep1 => ?_⟩
    obtain ⟨a, vs, h1, h2, h3, h4, h5⟩ := rel1.own i xs (readO_some ex)
    rw [hv] at h1
    cases h1
    generalize y.d = dy at e2 rep1
    cases rep1 <;> first | (cases e2; done) | skip
    rename_i k
    dsimp only at e2
    split at e2
    · rename_i hsm
      simp only [Option.bind_eq_some_iff, Option.map_eq_some_iff] at e2
      obtain ⟨j, ej, d, ed, e3⟩ := e2
      cases e3
      unfold smallI at hsm
      rw [Bool.and_eq_true] at hsm
      have s1' := of_decide_eq_true hsm.1
      have s2' := of_decide_eq_true hsm.2
      obtain ⟨v, hv1, hv2⟩ := h3.get ed
      refine ⟨a0, vs, k, j, v, rfl, rfl, h2, by omega, by omega, by rw [h3.length]; exact ej, hv1, ?_⟩
      obtain ⟨rel2, stp2⟩ := rel1.updOwn (readO_some ex) hv h2 (h3.erase j)
      exact q F1 _ as1 v rel2 (stp1.trans stp2) hv2
    · cases e2

/-! ### targets -/
theorem d_nm {x : Expr} {i : Nat} (h : PG X x (gName i)) : PG X x (tDG X.K ct (.nm i)) := h.weak fun v σ H Q ⟨F, as, S, M, d, S', rel, rep, ev, q⟩ => by
  simp only [setG] at ev
  cases ev
  obtain ⟨rel2, stp2⟩ := rel.set (i := i) rep
  exact q F H as _ rel2 stp2 (fun j hj => List.getElem?_set_ne (fun w => hj (by simp [XG.slots, w]))) (by simp)
/-- several names -/
def gNames : List Nat → TGs
  | [] => gNil
  | i :: is => gCons (gName i) (gNames is)
theorem names_read {K : PySem.W.Frag} {M : List MO} {F H : Hp} {as : List Addr} : ∀ {is : List Nat} {vs : List V} {ds : List D} {σ : L2.St} {S S' : List SV} {Q : L2.St → Hp → Prop}, Rel K ct F H as σ S M → RepL K F as vs ds → setMany is ds S = some S' →
    (∀ σ', Rel K ct F H as σ' S' M → Stp F H as σ S F H as σ' S' → (∀ j, j ∉ is → σ'[j]? = σ[j]?) → σ'.length = σ.length → Q σ' H) → gNames is vs σ H Q
  | [], _, ds, σ, S, S', Q, rel, rep, e, q => by
    cases rep with
    | nil =>
      simp only [setMany] at e
      cases e
      exact ⟨rfl, q σ rel Stp.refl (fun _ _ => rfl) rfl⟩
    | cons h r => simp [setMany] at e
  | i :: is, _, ds, σ, S, S', Q, rel, rep, e, q => by
    cases rep with
    | nil => simp [setMany] at e
    | @cons v vs d ds h r =>
      simp only [setMany] at e
      obtain ⟨rel2, stp2⟩ := rel.set (i := i) h
      refine ⟨v, vs, rfl, ?_⟩
      refine names_read rel2 r e fun σ' rel3 stp3 h1 h2 => q σ' rel3 (stp2.trans stp3) (fun j hj => ?_) (by rw [h2]; simp)
      simp only [List.mem_cons, not_or] at hj
      rw [h1 j hj.2, List.getElem?_set_ne (fun w => hj.1 w.symm)]
theorem d_tupG {xs : List Expr} {k : Nat} {is : List Nat} {n : Nat} {pos : Pos} (hc : X.calm = true) (h : PGs X xs (gNames is)) (hn : (assignEach xs X.env).length = n) (hi : is.length = n) (hst : (assignEach xs X.env).findIdx? (·.1) = none) : PG X (.Tuple xs k pos) (tDG X.K ct (.tup is)) :=
  (pg_tup hc h hn hst).weak fun v σ H Q ⟨F, as, S, M, d, S', rel, rep, ev, q⟩ => by
    obtain ⟨a, vs, ds, rfl, rfl, h1, r1⟩ : ∃ a vs ds, v = .ref a ∧ d = .tup ds ∧ SqT X.K F a vs ∧ RepL X.K F as vs ds := by
      cases rep <;> simp only [setG] at ev <;> first | (cases ev; done) | skip
      exact ⟨_, _, _, rfl, rfl, ‹_›, ‹_›⟩
    simp only [setG] at ev
    refine ⟨a, vs, rfl, rel.sub.t h1, ?_, names_read rel r1 ev fun σ' rel2 stp2 e1 e2 => q F H as σ' rel2 stp2 e1 e2⟩
    have key : ∀ (is : List Nat) (ds : List D) (S S' : List SV), setMany is ds S = some S' → ds.length = is.length := by
      intro is
      induction is with
      | nil => intro ds S S' h; cases ds <;> simp [setMany] at h ⊢
      | cons i is ih => intro ds S S' h; cases ds with
        | nil => simp [setMany] at h
        | cons d ds => simp only [setMany] at h; simp [ih _ _ _ h]
    rw [r1.length, key _ _ _ _ ev, hi]

/-! ### what is walked -/
def iSeq (K : PySem.W.Frag) (tl : TE) : TI := fun σ H R => tl σ H fun x H1 => (∃ a, x = .ref a ∧ (∃ xs, SqL K H1 a xs) ∧ R (Itl K a) H1) ∨ (∃ a, x = .ref a ∧ (∃ xs, SqT K H1 a xs) ∧ R (Itt K a) H1)
theorem pi_seq {tg l : Expr} {tl : TE} (hl : PE X l tl) : PI X tg l (iSeq X.K tl) := by
  refine ⟨fun pins s σ H R I h => ?_⟩
  refine thn (hl.run pins s σ H _ I h) fun v s1 ⟨x, H1, I1, r1, q1⟩ => ?_
  rcases q1 with ⟨a, e, ⟨xs, hq⟩, q⟩ | ⟨a, e, ⟨xs, hq⟩, q⟩
  · subst e
    cases r1
    obtain ⟨its, rv, p, hz⟩ := I1.list hq
    refine wpAny_pyIter_list p.isList ?_
    refine ⟨s1.heap.objs.size, [s1.heap.objs.size], _, _, H1, rfl, I1.kept (t' := s1.toks) fun b o e => Heap.get?_push_of_some _ e, turn_list a _, ⟨_, Heap.get?_push_size _ rfl, rfl, rfl⟩, fun b hb => ?_, q⟩
    have e : b = s1.heap.objs.size := by simpa using hb
    subst e
    exact I1.fpOk (Nat.le_refl _) (I1.hok.fresh (Nat.le_refl _))
  · subst e
    cases r1
    obtain ⟨its, rv, p, hz⟩ := I1.tuple hq
    refine wpAny_pyIter_tuple (show s1.heap.IsTuple a its.toArray from p) ?_
    refine ⟨s1.heap.objs.size, [s1.heap.objs.size], _, _, H1, rfl, I1.kept (t' := s1.toks) fun b o e => Heap.get?_push_of_some _ e, turn_tuple a _, ⟨_, Heap.get?_push_size _ rfl, rfl, rfl⟩, fun b hb => ?_, q⟩
    have e : b = s1.heap.objs.size := by simpa using hb
    subst e
    exact I1.fpOk (Nat.le_refl _) (I1.hok.fresh (Nat.le_refl _))
theorem it_list {K : PySem.W.Frag} {F : Hp} {as : List Addr} {a : Addr} {vs : List V} {ds : List D} (h : SqL K F a vs) (r : RepL K F as vs ds) : ItOk K ct F as (Itl K a) ds := by
  intro F1 H1 as1 σ1 S1 M1 sub pre rel i
  have hq : SqL K H1 a vs := rel.sub.l (sub.l h)
  refine ⟨fun hi => ⟨vs, hq, by rw [r.length]; exact hi⟩, fun d hd => ?_⟩
  obtain ⟨v, hv, rv⟩ := r.get hd
  refine ⟨⟨vs, v, hq, hv⟩, fun x H2 y => ?_⟩
  obtain ⟨rfl, y⟩ := y
  have e : v = x := Option.some.inj (hv.symm.trans (y vs hq))
  subst e
  exact ⟨F1, rel, Stp.refl, rv.mono sub pre⟩
theorem it_tup {K : PySem.W.Frag} {F : Hp} {as : List Addr} {a : Addr} {vs : List V} {ds : List D} (h : SqT K F a vs) (r : RepL K F as vs ds) : ItOk K ct F as (Itt K a) ds := by
  intro F1 H1 as1 σ1 S1 M1 sub pre rel i
  have hq : SqT K H1 a vs := rel.sub.t (sub.t h)
  refine ⟨fun hi => ⟨vs, hq, by rw [r.length]; exact hi⟩, fun d hd => ?_⟩
  obtain ⟨v, hv, rv⟩ := r.get hd
  refine ⟨⟨vs, v, hq, hv⟩, fun x H2 y => ?_⟩
  obtain ⟨rfl, y⟩ := y
  have e : v = x := Option.some.inj (hv.symm.trans (y vs hq))
  subst e
  exact ⟨F1, rel, Stp.refl, rv.mono sub pre⟩
theorem it_rng {K : PySem.W.Frag} {F : Hp} {as : List Addr} {lo : Int} {n : Nat} : ItOk K ct F as (Itr lo n) (rngL lo n) := by
  intro F1 H1 as1 σ1 S1 M1 sub pre rel i
  have hl : (rngL lo n).length = n := by simp [rngL]
  refine ⟨fun hi => by rw [hl] at hi; exact hi, fun d hd => ?_⟩
  have hi : i < n := by
    rcases Nat.lt_or_ge i n with z | z
    · exact z
    · rw [List.getElem?_eq_none (by rw [hl]; exact z)] at hd; cases hd
  have hd' : d = .int (lo + i) := by
    have : (rngL lo n)[i]? = some (.int (lo + i)) := by
      unfold rngL
      rw [List.getElem?_map, List.getElem?_range hi]
      rfl
    rw [this] at hd
    cases hd
    rfl
  subst hd'
  refine ⟨hi, fun x H2 y => ?_⟩
  obtain ⟨rfl, rfl⟩ := y
  exact ⟨F1, rel, Stp.refl, .int _⟩
theorem d_iseq {tg x : Expr} {e : XE} (h : PE X x (tD0 X.K ct cl e)) : PI X tg x (tDI X.K ct cl (.seq e)) := (pi_seq h.giv).weak fun σ H R ⟨F, as, S, M, xs, S', M', rel, ev, q⟩ => by
  simp only [denI, Option.bind_eq_some_iff, Option.map_eq_some_iff] at ev
  obtain ⟨⟨r, s1⟩, ea, ys, ey, e2⟩ := ev
  cases e2
  refine ⟨F, as, S, M, r, S', M', rel, ea, fun F1 H1 as1 v rel1 stp1 rep1 => ?_⟩
  generalize r.d = d at ey rep1
  cases rep1 <;> simp only [D.seq] at ey <;> first | (cases ey; done) | skip
  · rename_i a vs ds h1 r1
    cases ey
    exact .inl ⟨a, rfl, ⟨vs, SqL.of (rel1.sub _ _ h1)⟩, q F1 H1 as1 _ rel1 stp1 (it_list (SqL.of h1) r1)⟩
  · rename_i a vs ds h1 r1
    cases ey
    exact .inr ⟨a, rfl, ⟨vs, rel1.sub.t h1⟩, q F1 H1 as1 _ rel1 stp1 (it_tup h1 r1)⟩
  · rename_i a vs ds h1 r1
    cases ey
    exact .inl ⟨a, rfl, ⟨vs, rel1.sub.l h1⟩, q F1 H1 as1 _ rel1 stp1 (it_list h1 r1)⟩
theorem small_of {i : Int} (h : smallI i = true) : -(2 ^ 62) ≤ i ∧ i < 2 ^ 62 := by
  unfold smallI at h
  rw [Bool.and_eq_true] at h
  exact ⟨of_decide_eq_true h.1, of_decide_eq_true h.2⟩
theorem d_irng1 {tg xa : Expr} {a : XE} {p pos : Pos} (hg : Gl X "range") (hm : X.mg "range" = none) (ha : PE X xa (tD0 X.K ct cl a)) (na : starEach [xa] X.env = (false, eval xa X.env) :: starEach [] X.env) :
    PI X tg (.Call (.Name "range" p) [xa] [] pos) (tDI X.K ct cl (.rng1 a)) := (pi_range1 hg hm (pa_cons ha.giv pa_nil na) na).weak fun σ H R ⟨F, as, S, M, xs, S', M', rel, ev, q⟩ => by
  simp only [denI, Option.bind_eq_some_iff] at ev
  obtain ⟨⟨r, s1⟩, ea, e2⟩ := ev
  refine ⟨F, as, S, M, r, s1.1, s1.2, rel, ea, fun F1 H1 as1 v rel1 stp1 rep1 => ?_⟩
  generalize r.d = d at e2 rep1
  cases rep1 <;> first | (cases e2; done) | skip
  dsimp only at e2
  split at e2
  · rename_i hn
    cases e2
    obtain ⟨h1, h2⟩ := small_of hn
    exact ⟨_, rfl, h1, h2, q F1 H1 as1 _ rel1 stp1 it_rng⟩
  · cases e2
theorem d_irng2 {tg xa xb : Expr} {a b : XE} {p pos : Pos} (hg : Gl X "range") (hm : X.mg "range" = none) (ha : PE X xa (tD0 X.K ct cl a)) (hb : PE X xb (tD0 X.K ct cl b)) (na : starEach [xa, xb] X.env = [(false, eval xa X.env), (false, eval xb X.env)]) (nb : starEach [xb] X.env = [(false, eval xb X.env)]) :
    PI X tg (.Call (.Name "range" p) [xa, xb] [] pos) (tDI X.K ct cl (.rng2 a b)) := (pi_range2 hg hm (pa_cons ha.giv (pa_cons hb.giv pa_nil (by rw [nb]; rfl)) (by rw [na, nb])) na nb).weak fun σ H R ⟨F, as, S, M, xs, S', M', rel, ev, q⟩ => by
  simp only [denI, Option.bind_eq_some_iff] at ev
  obtain ⟨⟨x, s1⟩, ea, ⟨y, s2⟩, eb, e2⟩ := ev
  refine ⟨F, as, S, M, x, s1.1, s1.2, rel, ea, fun F1 H1 as1 v rel1 stp1 rep1 => ⟨F1, as1, s1.1, s1.2, y, s2.1, s2.2, rel1, eb, fun F2 H2 as2 w rel2 stp2 rep2 => ?_⟩⟩
  generalize x.d = d at e2 rep1
  generalize y.d = e at e2 rep2
  split at e2
  · rename_i i j
    split at e2
    · rename_i hn
      cases e2
      rw [Bool.and_eq_true] at hn
      obtain ⟨h1, h2⟩ := small_of hn.1
      obtain ⟨h3, h4⟩ := small_of hn.2
      cases rep1
      cases rep2
      exact ⟨i, j, rfl, ⟨h1, h2, h3, h4⟩, q F2 H2 as2 _ rel2 (stp1.trans stp2) it_rng⟩
    · cases e2
  · cases e2

/-! ### comprehensions -/
theorem d_ptsN : PTs X [] (fun σ H Q => ∃ F as S M k S' M', Rel X.K ct F H as σ S M ∧ denT cl none (S, M) = some (k, (S', M')) ∧ ∀ F' H' as', Rel X.K ct F' H' as' σ S' M' → Stp F H as σ S F' H' as' σ S' → Q k H') :=
  ⟨fun pins s σ H Q I ⟨F, as, S, M, k, S', M', rel, ev, q⟩ => by
    simp only [denT] at ev
    cases ev
    exact pts_nil.run pins s σ H Q I (q F H as rel Stp.refl)⟩
def tDTo (K : PySem.W.Frag) (ct : Nat → Addr) (cl : CL) (t : Option XE) : TT := fun σ H Q => ∃ F as S M k S' M', Rel K ct F H as σ S M ∧ denT cl t (S, M) = some (k, (S', M')) ∧
  ∀ F' H' as', Rel K ct F' H' as' σ S' M' → Stp F H as σ S F' H' as' σ S' → Q k H'
theorem d_comp {elt tg iter : Expr} {ifs : List Expr} {scope : Scope} {own : List (Str × Nat)} {pos : Pos} {g : XG} {it : XI} {t : Option XE} {e : XE} (hc : X.calm = true) (hN : X.N.Nodup) (hi : PI X tg iter (tDI X.K ct cl it)) (ok : BlkOk X.N X.env.scope scope own) (hsl : ∀ j ∈ g.slots, j ∈ own.map (·.2))
    (hg : ∀ (s : Shared) (H : Hp) (C : Addr) (l : List (Str × Addr)) (fp : List Addr), PG (X.blk s H scope (compEnvC scope l C X.env) fp) tg (tDG X.K ct g)) (ht : ∀ (s : Shared) (H : Hp) (C : Addr) (l : List (Str × Addr)) (fp : List Addr), PTs (X.blk s H scope (compEnvC scope l C X.env) fp) ifs (tDTo X.K ct cl t))
    (he : ∀ (s : Shared) (H : Hp) (C : Addr) (l : List (Str × Addr)) (fp : List Addr), PE (X.blk s H scope (compEnvC scope l C X.env) fp) elt (tD X.K ct cl e)) (hs : ∀ x, foldedSetIterable iter X.env x = pure x) :
    PE X (.ListComp elt [⟨tg, iter, ifs, 0⟩] scope pos) (tLc (tDI X.K ct cl it) (tDG X.K ct g) (tDTo X.K ct cl t) (tD X.K ct cl e) (own.map (·.2))) := pe_lc hc hN hi ok hg ht he hs
theorem comp_read {own : List (Str × Nat)} {g : XG} {it : XI} {t : Option XE} {e : XE} (hsl : ∀ j ∈ g.slots, j ∈ own.map (·.2)) {σ : L2.St} {H : Hp} {Q : VK} (h : tD0 X.K ct cl (.comp g it t e own) σ H Q) :
    tLc (tDI X.K ct cl it) (tDG X.K ct g) (tDTo X.K ct cl t) (tD X.K ct cl e) (own.map (·.2)) σ H Q := by
  obtain ⟨F, as, S, M, z, S', M', rel, ev, q⟩ := h
  simp only [den, Option.bind_eq_some_iff, Option.map_eq_some_iff] at ev
  obtain ⟨⟨xs, s1⟩, ei, ⟨ds, s2⟩, ec, e2⟩ := ev
  cases e2
  generalize hvs : own.map (·.2) = vs at *
  refine ⟨F, as, S, M, xs, s1.1, s1.2, rel, ei, fun F1 H1 as1 J rel1 stp1 jt D hD => ?_⟩
  obtain ⟨relw, stpw⟩ := rel1.wipe vs
  refine ⟨fun i m H' => m = xs.length - i ∧ i ≤ xs.length ∧ ∃ F' as' T N acc us, Rel X.K ct F' H' as' (L2.wipe σ vs) T N ∧ Stp F1 H1 as1 (L2.wipe σ vs) (wipeD s1.1 vs) F' H' as' (L2.wipe σ vs) T ∧ H' D = some (.lst us) ∧ F' D = none ∧ D ∉ as' ∧ ¬ Own (L2.wipe σ vs) T D ∧
      RepL X.K F' as' us acc ∧ compD (setG g) (denT cl t) (fun s => (den cl e s).map fun (z, s2) => (z.d, s2)) vs (xs.drop i) (T, N) acc = some (ds, s2), ⟨xs.length, by simp, Nat.zero_le _, ?_⟩, ?_⟩
  · obtain ⟨r0, st0⟩ := relw.fresh (o := .lst []) hD
    obtain ⟨f1, f2, f3⟩ := relw.free hD
    exact ⟨F1, as1, _, _, [], [], r0, st0, upd_same, f1, f2, f3, .nil, by rw [List.drop_zero]; exact ec⟩
  · rintro i m H' ⟨rfl, hi, F', as', T, N, acc, us, rl, st, hH, hF, ha, ho, ra, ev⟩
    obtain ⟨jstop, jgo⟩ := jt st.sub st.pre rl i
    by_cases hlt : i < xs.length
    · have hx : xs[i]? = some xs[i] := List.getElem?_eq_getElem hlt
      obtain ⟨go, yld⟩ := jgo _ hx
      rw [List.drop_eq_getElem_cons hlt] at ev
      simp only [compD, Option.bind_eq_some_iff] at ev
      obtain ⟨T1, eg, ⟨b, s3⟩, et, ev⟩ := ev
      refine .inr ⟨go, fun H' => ∃ F' as' T N acc us, Rel X.K ct F' H' as' (L2.wipe σ vs) T N ∧ Stp F1 H1 as1 (L2.wipe σ vs) (wipeD s1.1 vs) F' H' as' (L2.wipe σ vs) T ∧ H' D = some (.lst us) ∧ F' D = none ∧ D ∉ as' ∧ ¬ Own (L2.wipe σ vs) T D ∧
        RepL X.K F' as' us acc ∧ compD (setG g) (denT cl t) (fun s => (den cl e s).map fun (z, s2) => (z.d, s2)) vs (xs.drop (i + 1)) (T, N) acc = some (ds, s2), fun H' p => ⟨xs.length - (i + 1), by omega, rfl, hlt, p⟩, fun x H2 y => ?_⟩
      obtain ⟨F2, rl2, st2, rx⟩ := yld x H2 y
      obtain ⟨hH2, hF2, ha2, ho2⟩ := st2.aside hH hF ha ho
      refine ⟨F2, as', T, N, _, T1, rl2, rx, eg, fun F3 H3 as3 σ3 rl3 st3 hj hlen => ?_⟩
      obtain ⟨hH3, hF3, ha3, ho3⟩ := st3.aside hH2 hF2 ha2 ho2
      have ew : L2.wipe σ3 vs = L2.wipe σ vs := by
        rw [wipe_eq (σ := L2.wipe σ vs) (fun j hjv => hj j fun z => hjv (hsl j z)) hlen, wipe_wipe]
      refine ⟨ew, F3, as3, T1, N, b, s3.1, s3.2, rl3, et, fun F4 H4 as4 rl4 st4 => ?_⟩
      obtain ⟨hH4, hF4, ha4, ho4⟩ := st4.aside hH3 hF3 ha3 ho3
      have st14 := ((st.trans st2).trans st3).trans st4
      have sub4 : Sub F' F4 := ((st2.sub.trans st3.sub).trans st4.sub)
      have pre4 : Pre as' as4 := ((st2.pre.trans st3.pre).trans st4.pre)
      cases b with
      | false =>
        rw [if_neg Bool.false_ne_true]
        obtain ⟨rlw, stw⟩ := rl4.wipe vs
        obtain ⟨g1, g2, g3, g4⟩ := stw.aside hH4 hF4 ha4 ho4
        rw [ew] at rlw stw g4
        exact ⟨F4, as4, _, _, acc, us, rlw, st14.trans stw, g1, g2, g3, g4, ra.mono sub4 pre4, ev⟩
      | true =>
        rw [if_pos rfl]
        simp only [Option.bind_eq_some_iff, Option.map_eq_some_iff] at ev
        obtain ⟨⟨d, s4⟩, ⟨⟨r, s5⟩, ee, e3⟩, ev⟩ := ev
        cases e3
        split at ev
        · rename_i hacc
          refine ⟨F4, as4, s3.1, s3.2, r, s5.1, s5.2, rl4, ee, fun F5 H5 as5 w rl5 st5 rw5 => ?_⟩
          obtain ⟨hH5, hF5, ha5, ho5⟩ := st5.aside hH4 hF4 ha4 ho4
          have ra5 := ra.mono (sub4.trans st5.sub) (pre4.trans st5.pre)
          refine ⟨us, hH5, by rw [ra.length]; exact hacc, ?_⟩
          obtain ⟨rlw, stw⟩ := rl5.wipe vs
          obtain ⟨g1, g2, g3, g4⟩ := stw.aside hH5 hF5 ha5 ho5
          rw [ew] at rlw stw g4
          obtain ⟨rl6, st6⟩ := rlw.other (o := .lst (us ++ [w])) ((st14.trans st5).trans stw) hD g2 g3 g4
          exact ⟨F5, as5, _, _, acc ++ [r.d], us ++ [w], rl6, st6, upd_same, g2, g3, g4, ra5.append (.cons rw5 .nil), ev⟩
        · cases ev
    · have e : i = xs.length := by omega
      subst e
      refine .inl ⟨jstop (Nat.le_refl _), ?_⟩
      rw [List.drop_length] at ev
      simp only [compD] at ev
      cases ev
      obtain ⟨rl2, st2⟩ := rel1.unwipe st rl
      have nD : H D = none := by
        cases z : H D with
        | none => rfl
        | some o =>
          obtain ⟨o', h'⟩ := stp1.kept D o z
          rw [hD] at h'; cases h'
      refine q F' H' as' _ rl2 (stp1.trans st2) ⟨D, us, rfl, nD, hH, hF, ha, fun ow => ?_, ra⟩
      rcases st2.own D ow with z | z
      · obtain ⟨_, _, fo⟩ := rel1.free hD
        exact fo z
      · exact absurd ow fun ⟨j, x, h1, h2⟩ => by
          obtain ⟨a, ws, f1, f2, f3, f4, f5⟩ := rl2.own j x h1
          rw [h2] at f1
          cases f1
          by_cases hj : j ∈ vs
          · have g := getD_some (by intro z; cases z) (restD_in hj h1)
            obtain ⟨a', ws', f1', f2', _⟩ := rel1.own j x g
            rw [h2] at f1'
            cases f1'
            rw [hD] at f2'; cases f2'
          · rw [restD_out hj] at h1
            exact ho ⟨j, x, h1, by rw [wipe_out hj]; exact h2⟩
theorem dE_comp {elt tg iter : Expr} {ifs : List Expr} {scope : Scope} {own : List (Str × Nat)} {pos : Pos} {g : XG} {it : XI} {t : Option XE} {e : XE} (hc : X.calm = true) (hN : X.N.Nodup) (hi : PI X tg iter (tDI X.K ct cl it)) (ok : BlkOk X.N X.env.scope scope own) (hsl : ∀ j ∈ g.slots, j ∈ own.map (·.2))
    (hg : ∀ (s : Shared) (H : Hp) (C : Addr) (l : List (Str × Addr)) (fp : List Addr), PG (X.blk s H scope (compEnvC scope l C X.env) fp) tg (tDG X.K ct g)) (ht : ∀ (s : Shared) (H : Hp) (C : Addr) (l : List (Str × Addr)) (fp : List Addr), PTs (X.blk s H scope (compEnvC scope l C X.env) fp) ifs (tDTo X.K ct cl t))
    (he : ∀ (s : Shared) (H : Hp) (C : Addr) (l : List (Str × Addr)) (fp : List Addr), PE (X.blk s H scope (compEnvC scope l C X.env) fp) elt (tD X.K ct cl e)) (hs : ∀ x, foldedSetIterable iter X.env x = pure x) :
    PE X (.ListComp elt [⟨tg, iter, ifs, 0⟩] scope pos) (tD0 X.K ct cl (.comp g it t e own)) := (pe_lc hc hN hi ok hg ht he hs).weak fun σ H Q h => comp_read hsl h
end
end DL

end
section
set_option maxHeartbeats 4000000
/-! DF: the matcher, and that a matched text runs as its meaning says. -/
namespace DL
open PySem PySem.Spec L2

/-! ### the matcher -/
def visB (sc : Scope) (x : Str) : Bool := match sc.names.lookup x with
  | some .local => true | some .cell => true | some .free => true | _ => false
def locB (sc : Scope) (x : Str) : Bool := match sc.names.lookup x with
  | some .local => true | some .cell => true | _ => false
def glB (sc : Scope) (x : Str) : Bool := match sc.names.lookup x with
  | some .globalImplicit => true | _ => false
def nameB (N : List Str) (sc : Scope) (i : Nat) (x : Expr) : Bool := match x with
  | .Name y _ => decide (N[i]? = some y) && visB sc y && !(y == ("__debug__" : Str)) && !(y == ("__classdict__" : Str))
  | _ => false
def BOp.of : Operator → Option BOp
  | .Add => some .add | .Sub => some .sub | .Mult => some .mul | .FloorDiv => some .fdiv | .Mod => some .mod | .Pow => some .pow
  | _ => none
def COp.of : CmpOp → COp
  | .Eq => .eq | .NotEq => .ne | .Lt => .lt | .LtE => .le | .Gt => .gt | .GtE => .ge | .Is => .is | .IsNot => .isnot | .In => .isin | .NotIn => .notin
theorem BOp.of_py {o : Operator} {op : BOp} (h : BOp.of o = some op) : o = op.py := by cases o <;> cases h <;> rfl
theorem COp.of_py {o : CmpOp} {op : COp} (h : COp.of o = op) : o = op.py := by subst h; cases o <;> rfl
def notCall : Expr → Bool
  | .Call _ _ _ _ => false
  | _ => true
def notSlice : Expr → Bool
  | .Slice _ _ _ _ => false
  | _ => true
def notSet : Expr → Bool
  | .Set _ _ _ => false
  | _ => true
def nameTgt (N : List Str) (sc : Scope) (i : Nat) (x : Expr) : Bool := match x with
  | .Name y _ => decide (N[i]? = some y) && locB sc y
  | _ => false
def namesTgt (N : List Str) (sc : Scope) : List Nat → List Expr → Bool
  | [], [] => true
  | i :: is, x :: xs => nameTgt N sc i x && namesTgt N sc is xs
  | _, _ => false
def mG (N : List Str) (sc : Scope) : XG → Expr → Bool
  | .nm i, x => nameTgt N sc i x
  | .tup is, .Tuple xs _ _ => namesTgt N sc is xs
  | .tup _, _ => false
def fnOk (T : Tbl) (f : String) (n : Nat) : Bool := T.fns.any fun g => g.name == f && g.pars == n
def bltNames : List Str := ["len", "list", "tuple", "sum", "abs", "int", "str", "isinstance", "range", "bool"]
/-- a comprehension's own names -/
def ownB (own : List (Str × Nat)) (g : XG) : Bool := g.slots.all fun (j : Nat) => decide (j ∈ own.map (·.2))
/-- may stand as a test -/
def tOk : XE → Bool
  | .and a b => tOk a && tOk b
  | .or a b => tOk a && tOk b
  | .no a => tOk a
  | .ite _ _ _ => false
  | _ => true
mutual
def mE (N : List Str) (T : Tbl) (sc : Scope) : XE → Expr → Bool
  | .var i, x => nameB N sc i x
  | .glob f, x => match x with
    | .Name y _ => decide (y = Str.ofString f) && glB sc y && (T.globs.lookup f).isSome && !(y == ("__debug__" : Str))
    | _ => false
  | .int i, x => match x with
    | .Constant (.int j) _ _ => decide (i = j)
    | _ => false
  | .str s, x => match x with
    | .Constant (.str t) _ _ => decide (s = t)
    | _ => false
  | .bl b, x => match x with
    | .Constant (.bool c) _ _ => decide (b = c)
    | _ => false
  | .non, x => match x with
    | .Constant .none _ _ => true
    | _ => false
  | .bin op a b, x => match x with
    | .BinOp xa o xb _ => decide (BOp.of o = some op) && mE N T sc a xa && mE N T sc b xb
    | _ => false
  | .neg a, x => match x with
    | .UnaryOp .USub xa _ => mE N T sc a xa
    | _ => false
  | .cmp op a b, x => match x with
    | .Compare xa [o] [xb] _ => decide (COp.of o = op) && mE N T sc a xa && mE N T sc b xb && !behindInMarks o xb
    | _ => false
  | .chain op op' a b c, x => match x with
    | .Compare xa [o, o'] [xb, xc] _ => decide (COp.of o = op) && decide (COp.of o' = op') && mE N T sc a xa && mE N T sc b xb && mE N T sc c xc && !lastMarks [o, o'] [xb, xc]
    | _ => false
  | .no a, x => match x with
    | .UnaryOp .Not xa _ => mE N T sc a xa
    | _ => false
  | .and a b, x => match x with
    | .BoolOp .And (xa :: xb :: rest) p => mE N T sc a xa && (match rest with
      | [] => mE N T sc b xb
      | _ :: _ => mE N T sc b (.BoolOp .And (xb :: rest) p))
    | _ => false
  | .or a b, x => match x with
    | .BoolOp .Or (xa :: xb :: rest) p => mE N T sc a xa && (match rest with
      | [] => mE N T sc b xb
      | _ :: _ => mE N T sc b (.BoolOp .Or (xb :: rest) p))
    | _ => false
  | .ite c a b, x => match x with
    | .IfExp xc xa xb _ => tOk c && mE N T sc c xc && mE N T sc a xa && mE N T sc b xb
    | _ => false
  | .tup es, x => match x with
    | .Tuple xs _ _ => mL N T sc es xs
    | _ => false
  | .lst es, x => match x with
    | .List xs _ => mL N T sc es xs
    | _ => false
  | .idx a b, x => match x with
    | .Subscript xa xb _ => mE N T sc a xa && mE N T sc b xb && notSlice xb
    | _ => false
  | .idxO i b, x => match x with
    | .Subscript xa xb _ => nameB N sc i xa && mE N T sc b xb && notSlice xb
    | _ => false
  | .slc a lo hi, x => match x with
    | .Subscript xa (.Slice xl xh none _) _ => mE N T sc a xa && mO N T sc lo xl && mO N T sc hi xh
    | _ => false
  | .rev a, x => match x with
    | .Subscript xa (.Slice none none (some (.UnaryOp .USub (.Constant (.int 1) _ _) _)) _) _ => mE N T sc a xa
    | _ => false
  | .call f es, x => match x with
    | .Call (.Name y _) xs [] _ => decide (y = Str.ofString f) && glB sc y && fnOk T f es.length && !(y == ("__debug__" : Str)) && mL N T sc es xs
    | _ => false
  | .bi p e, x => match x with
    | .Call (.Name y _) [xa] [] _ => decide (p.ty = none) && decide (y = p.py.1) && glB sc y && mE N T sc e xa
    | .Call (.Name y _) [xa, .Name t _] [] _ => (match p.ty with
      | some tt => decide (t = Str.ofString tt) && decide (y = ("isinstance" : Str)) && glB sc y && glB sc t && mE N T sc e xa
      | none => false)
    | _ => false
  | .lenO i, x => match x with
    | .Call (.Name y _) [xa] [] _ => decide (y = ("len" : Str)) && glB sc y && nameB N sc i xa
    | _ => false
  | .lrng a, x => match x with
    | .Call (.Name y _) [.Call (.Name z _) [xa] [] _] [] _ => decide (y = ("list" : Str)) && decide (z = ("range" : Str)) && glB sc y && glB sc z && mE N T sc a xa
    | _ => false
  | .ndx a b, x => match x with
    | .Call (.Attribute xa n ap) [xb] [] p => decide (n = ("index" : Str)) && (ap.endLine == p.line) && notCall xa && mE N T sc a xa && mE N T sc b xb
    | _ => false
  | .popO i e, x => match x with
    | .Call (.Attribute xa n ap) [xb] [] p => decide (n = ("pop" : Str)) && (ap.endLine == p.line) && nameB N sc i xa && mE N T sc e xb
    | _ => false
  | .comp g it t e own, x => match x with
    | .ListComp xe [⟨tg, xi, ifs, 0⟩] scope _ => blkC N sc scope own && ownB own g && mI N T sc it xi && mG N scope g tg && mE N T (relS scope sc) e xe && (match t, ifs with
      | none, [] => true
      | some tt, [xt] => tOk tt && mE N T (relS scope sc) tt xt
      | _, _ => false)
    | _ => false
def mL (N : List Str) (T : Tbl) (sc : Scope) : List XE → List Expr → Bool
  | [], [] => true
  | e :: es, x :: xs => mE N T sc e x && mL N T sc es xs
  | _, _ => false
def mO (N : List Str) (T : Tbl) (sc : Scope) : Option XE → Option Expr → Bool
  | none, none => true
  | some e, some x => mE N T sc e x
  | _, _ => false
def mI (N : List Str) (T : Tbl) (sc : Scope) : XI → Expr → Bool
  | .seq e, x => mE N T sc e x && notSet x
  | .rng1 a, x => match x with
    | .Call (.Name z _) [xa] [] _ => decide (z = ("range" : Str)) && glB sc z && mE N T sc a xa
    | _ => false
  | .rng2 a b, x => match x with
    | .Call (.Name z _) [xa, xb] [] _ => decide (z = ("range" : Str)) && glB sc z && mE N T sc a xa && mE N T sc b xb
    | _ => false
end
def isComp : Expr → Bool
  | .ListComp _ _ _ _ => true | .SetComp _ _ _ _ => true | .DictComp _ _ _ _ _ => true
  | _ => false
def isTupDisp : Expr → Bool
  | .Tuple _ _ _ => true
  | _ => false
/-- a store that CPython folds into the comprehension's frame -/
def swapB (sc : Scope) (y : Str) (py : Pos) (v : Expr) : Bool := match v with
  | .ListComp _ _ s p => decide (sc.names.lookup y = some .local) && (py.line == p.line) && !(s.names.any fun (n, k) => n == y && (k == .local || k == .cell))
  | _ => false
mutual
def mS (N : List Str) (T : Tbl) (sc : Scope) : XS → Stmt → Bool
  | .asg g e, st => match st with
    | .Assign [tg] v p => mE N T sc e v && (match g with
      | .nm i => nameTgt N sc i tg && decide (sc.kind = .function)
      | .tup is => mG N sc (.tup is) tg && !isTupDisp v)
    | _ => false
  | .setO i e, st => match st with
    | .Assign [tg] v p => mE N T sc e v && nameTgt N sc i tg && decide (sc.kind = .function)
    | _ => false
  | .setM i e, st => match st with
    | .Assign [tg] v p => mE N T sc e v && nameTgt N sc i tg && decide (sc.kind = .function)
    | _ => false
  | .app i e, st => match st with
    | .Expr (.Call (.Attribute xa n ap) [xb] [] p) _ => decide (n = ("append" : Str)) && (ap.endLine == p.line) && nameB N sc i xa && mE N T sc e xb
    | _ => false
  | .appM a e, st => match st with
    | .Expr (.Call (.Attribute xa n ap) [xb] [] p) _ => decide (n = ("append" : Str)) && (ap.endLine == p.line) && notCall xa && mE N T sc a xa && mE N T sc e xb
    | _ => false
  | .drop e, st => match st with
    | .Expr x _ => mE N T sc e x && !isComp x
    | _ => false
  | .ret e, st => match st with
    | .Return (some x) _ => mE N T sc e x
    | _ => false
  | .retN, st => match st with
    | .Return none _ => true
    | _ => false
  | .ife c a b, st => match st with
    | .If xc xs ys _ => tOk c && mE N T sc c xc && mB N T sc a xs && mB N T sc b ys
    | _ => false
  | .loop g it body, st => match st with
    | .For tg xi xs [] _ => mG N sc g tg && mI N T sc it xi && mB N T sc body xs
    | _ => false
  | .wh c body, st => match st with
    | .While xc xs [] _ => tOk c && mE N T sc c xc && mB N T sc body xs
    | _ => false
  | .brk, st => match st with
    | .Break _ => true
    | _ => false
  | .cnt, st => match st with
    | .Continue _ => true
    | _ => false
  | .pass, st => match st with
    | .Pass _ => true
    | _ => false
  | .put a i e, st => match st with
    | .Assign [.Subscript xa xi _] v _ => mE N T sc a xa && mE N T sc i xi && mE N T sc e v && notSlice xi
    | _ => false
  | .aug i op e, st => match st with
    | .AugAssign tg o v _ => nameTgt N sc i tg && decide (BOp.of o = some op) && mE N T sc e v
    | _ => false
def mB (N : List Str) (T : Tbl) (sc : Scope) : List XS → List Stmt → Bool
  | [], [] => true
  | s :: ss, t :: ts => mS N T sc s t && mB N T sc ss ts
  | _, _ => false
end

/-! ### contexts -/
structure Kx (X : Cx) (T : Tbl) (ct : Nat → Addr) (cl : CL) : Prop where
  calm : X.calm = true
  nd : X.N.Nodup
  un : X.A.units + 65 < cLine
  xe : X.xe = fun _ _ => False
  blt : ∀ x, x ∈ bltNames → X.mg x = none
  fns : ∀ g, g ∈ T.fns → ∃ (f : Addr) (fd : FuncData) (ps : List Str) (k : Nat), X.mg (Str.ofString g.name) = some (.ref f) ∧ PySem.W.keepIn X.K (.ref f) = true ∧ Binds X.K fd ps [] ∧ Room k X.A ∧
    FnOk X.prog X.w X.K X.mg X.base CX0 k f fd ps (spD X.K ct cl g.name g.pars)
  globs : ∀ x d, T.globs.lookup x = some d → (∃ v u, X.mg (Str.ofString x) = some u ∧ RelV v u ∧ ∀ F as, Rep X.K F as v d) ∧ ∀ M, cl x [] M = some (d, M)
theorem Kx.blk {X : Cx} {T : Tbl} {ct : Nat → Addr} {cl : CL} (k : Kx X T ct cl) (s : Shared) (H : Hp) (scope : Scope) (cenv : Env) (fp : List Addr) : Kx (X.blk s H scope cenv fp) T ct cl :=
  ⟨k.calm, k.nd, k.un, rfl, k.blt, k.fns, k.globs⟩

section
variable {N : List Str} {T : Tbl} {sc : Scope}
theorem vis_of {x : Str} (h : visB sc x = true) : Vis sc x := by
  unfold visB at h
  unfold Vis
  split at h <;> first | (cases h; done) | (rename_i e; rw [e]; simp)
theorem loc_of {x : Str} (h : locB sc x = true) : L2.Loc sc x := by
  unfold locB at h
  unfold L2.Loc
  split at h <;> first | (cases h; done) | (rename_i e; rw [e]; simp)
theorem gl_of {X : Cx} {x : Str} (hs : X.env.scope = sc) (h : glB sc x = true) : Gl X x := by
  unfold glB at h
  show X.env.scope.names.lookup x = some .globalImplicit
  rw [hs]
  split at h <;> first | (cases h; done) | assumption
theorem name_of {X : Cx} {i : Nat} {x : Expr} (hN : X.N = N) (hs : X.env.scope = sc) (h : nameB N sc i x = true) : PE X x (tVar i) := by
  unfold nameB at h
  split at h
  · simp only [Bool.and_eq_true, decide_eq_true_eq, Bool.not_eq_true'] at h
    obtain ⟨⟨⟨h1, h2⟩, h3⟩, h4⟩ := h
    exact pe_var (by rw [hN]; exact h1) (by rw [hs]; exact vis_of h2) h3 h4
  · cases h
theorem tgt_of {X : Cx} {i : Nat} {x : Expr} (hnd : X.N.Nodup) (hN : X.N = N) (hl : ∀ y, locB sc y = true → L2.Loc X.env.scope y ∧ (X.fn y = true ∨ X.env.scope.names.lookup y = some .local)) (h : nameTgt N sc i x = true) : PG X x (gName i) := by
  unfold nameTgt at h
  split at h
  · simp only [Bool.and_eq_true, decide_eq_true_eq] at h
    exact pg_name hnd (by rw [hN]; exact h.1) (hl _ h.2).1 (hl _ h.2).2
  · cases h
theorem tgt_star {i : Nat} {x : Expr} (h : nameTgt N sc i x = true) (xs : List Expr) (env : Env) : assignEach (x :: xs) env = (false, assign x env) :: assignEach xs env := by
  unfold nameTgt at h
  split at h
  · rfl
  · cases h
theorem tgts_of {X : Cx} (hnd : X.N.Nodup) (hN : X.N = N) (hl : ∀ y, locB sc y = true → L2.Loc X.env.scope y ∧ (X.fn y = true ∨ X.env.scope.names.lookup y = some .local)) : ∀ {is : List Nat} {xs : List Expr}, namesTgt N sc is xs = true → PGs X xs (gNames is) ∧ (assignEach xs X.env).length = is.length ∧ (assignEach xs X.env).findIdx? (·.1) = none
  | [], [], _ => ⟨pgs_nil, rfl, rfl⟩
  | i :: is, x :: xs, h => by
    have h' : (nameTgt N sc i x && namesTgt N sc is xs) = true := h
    rw [Bool.and_eq_true] at h'
    obtain ⟨a, b, c⟩ := tgts_of hnd hN hl h'.2
    have e := tgt_star h'.1 xs X.env
    refine ⟨pgs_cons (tgt_of hnd hN hl h'.1) a (by rw [e]; rfl), by rw [e]; simp [b], ?_⟩
    rw [e, List.findIdx?_cons]
    simp [c]
  | [], _ :: _, h => by cases h
  | _ :: _, [], h => by cases h
theorem g_of {X : Cx} {ct : Nat → Addr} {g : XG} {x : Expr} (hc : X.calm = true) (hnd : X.N.Nodup) (hN : X.N = N) (hl : ∀ y, locB sc y = true → L2.Loc X.env.scope y ∧ (X.fn y = true ∨ X.env.scope.names.lookup y = some .local)) (h : mG N sc g x = true) : PG X x (tDG X.K ct g) := by
  cases g with
  | nm i => exact d_nm (tgt_of hnd hN hl h)
  | tup is =>
    unfold mG at h
    split at h
    · rename_i e; cases e
    · rename_i e
      cases e
      obtain ⟨a, b, c⟩ := tgts_of hnd hN hl h
      exact d_tupG hc a b rfl c
    · cases h

/-! ### a matched expression is not starred, and so on -/
theorem mE_plain {e : XE} {x : Expr} (h : mE N T sc e x = true) : (match x with | .Starred _ _ => false | .Slice _ _ _ _ => false | .Lambda _ _ _ _ => false | .Set _ _ _ => false | .NamedExpr _ _ _ => false | _ => true) = true := by
  cases x <;> first | rfl | (cases e <;> simp [mE, nameB] at h)
theorem star_of {e : XE} {x : Expr} (h : mE N T sc e x = true) (xs : List Expr) (env : Env) : starEach (x :: xs) env = (false, eval x env) :: starEach xs env := by
  have q := mE_plain h
  cases x <;> first | rfl | (cases q; done)
theorem star_name {i : Nat} {x : Expr} (h : nameB N sc i x = true) (xs : List Expr) (env : Env) : starEach (x :: xs) env = (false, eval x env) :: starEach xs env := by
  unfold nameB at h
  cases x <;> first | rfl | (cases h; done)
theorem stars_of : ∀ {es : List XE} {xs : List Expr} (env : Env) (pos : Pos), mL N T sc es xs = true → (backTo pos (starEach xs env)).any (·.1) = false
  | [], [], _, _, _ => rfl
  | e :: es, x :: xs, env, pos, h => by
    simp only [mL, Bool.and_eq_true] at h
    rw [star_of h.1]
    have := stars_of env pos h.2
    show ((false : Bool) || (backTo pos (starEach xs env)).any (·.1)) = false
    rw [this]
    rfl
  | [], _ :: _, _, _, h => by simp [mL] at h
  | _ :: _, [], _, _, h => by simp [mL] at h
theorem folded_of {x : Expr} (h : notSet x = true) (env : Env) : ∀ v, foldedSetIterable x env v = pure v := by
  intro v
  cases x <;> first | rfl | (cases h; done)
theorem base_of {x : Expr} (h : notCall x = true) (a : Str) (env : Env) : attributeBase x a env (eval x env) = eval x env := by
  cases x <;> first | rfl | (cases h; done)
theorem nameB_call {i : Nat} {x : Expr} (h : nameB N sc i x = true) : notCall x = true := by
  unfold nameB at h
  cases x <;> first | rfl | (cases h; done)
theorem plain_of {x : Expr} (h : notSlice x = true) : PlainIx x := by
  intro o i
  cases x <;> first | rfl | (cases h; done)
/-- an expression whose test is its value's truth -/
def plainT : XE → Bool
  | .cmp _ _ _ => false | .chain _ _ _ _ _ => false | .no _ => false | .and _ _ => false | .or _ _ => false | .ite _ _ _ => false
  | _ => true
theorem truth_of {e : XE} {x : Expr} (hp : plainT e = true) (h : mE N T sc e x = true) (env : Env) : ∀ whole, isTrue x env whole = (do let v ← whole; standAt x.pos; holding [v] (truthy v)) := by
  intro whole
  cases x with
  | UnaryOp op y p => cases op <;> first | rfl | (cases e <;> first | (cases hp; done) | (simp [mE, nameB] at h))
  | BoolOp op y p => cases e <;> first | (cases hp; done) | (simp [mE, nameB] at h)
  | IfExp a b c p => cases e <;> first | (cases hp; done) | (simp [mE, nameB] at h)
  | Compare a b c p => cases e <;> first | (cases hp; done) | (simp [mE, nameB] at h)
  | _ => rfl
end

theorem folded_mI {N : List Str} {T : Tbl} {sc : Scope} {it : XI} {x : Expr} (h : mI N T sc it x = true) (env : Env) : ∀ v, foldedSetIterable x env v = pure v := by
  cases it with
  | seq e =>
    simp only [mI, Bool.and_eq_true] at h
    exact folded_of h.2 env
  | rng1 a => cases x <;> first | (simp [mI] at h; done) | (intro v; rfl)
  | rng2 a b => cases x <;> first | (simp [mI] at h; done) | (intro v; rfl)

/-! ### expressions -/
section
variable {T : Tbl} {ct : Nat → Addr} {cl : CL}
mutual
theorem sE : ∀ (e : XE) {X : Cx} {sc : Scope} {x : Expr}, Kx X T ct cl → X.env.scope = sc → mE X.N T sc e x = true → PE X x (tD0 X.K ct cl e)
  | .var i, X, sc, x, k, hs, h => by
    simp only [mE] at h
    exact d_var (name_of rfl hs h)
  | .glob f, X, sc, x, k, hs, h => by
    unfold mE at h
    split at h
    · rename_i y p
      simp only [Bool.and_eq_true, decide_eq_true_eq, Bool.not_eq_true'] at h
      obtain ⟨⟨⟨rfl, h2⟩, h3⟩, h4⟩ := h
      obtain ⟨d, hd⟩ := Option.isSome_iff_exists.mp h3
      obtain ⟨⟨v, u, h5, h6, h7⟩, h8⟩ := k.globs f d hd
      exact d_const (v := v) (d := d) (pe_glob (gl_of hs h2) h5 h6 h4) (fun s => by simp only [den, h8, Option.map_some]) h7
    · cases h
  | .int i, X, sc, x, k, hs, h => by
    unfold mE at h
    split at h
    · cases of_decide_eq_true h
      exact d_const pe_int (fun _ => rfl) fun _ _ => .int i
    · cases h
  | .str s, X, sc, x, k, hs, h => by
    unfold mE at h
    split at h
    · cases of_decide_eq_true h
      exact d_const pe_str (fun _ => rfl) fun _ _ => .str s
    · cases h
  | .bl b, X, sc, x, k, hs, h => by
    unfold mE at h
    split at h
    · cases of_decide_eq_true h
      exact d_const pe_bl (fun _ => rfl) fun _ _ => .bl b
    · cases h
  | .non, X, sc, x, k, hs, h => by
    unfold mE at h
    split at h
    · exact d_const pe_non (fun _ => rfl) fun _ _ => .non
    · cases h
  | .bin op a b, X, sc, x, k, hs, h => by
    unfold mE at h
    split at h
    · simp only [Bool.and_eq_true, decide_eq_true_eq] at h
      obtain ⟨⟨h1, h2⟩, h3⟩ := h
      have e := BOp.of_py h1
      subst e
      exact d_bin op (sE a k hs h2) (sE b k hs h3)
    · cases h
  | .neg a, X, sc, x, k, hs, h => by
    unfold mE at h
    split at h
    · exact d_neg (sE a k hs h)
    · cases h
  | .cmp op a b, X, sc, x, k, hs, h => by
    unfold mE at h
    split at h
    · simp only [Bool.and_eq_true, decide_eq_true_eq, Bool.not_eq_true'] at h
      obtain ⟨⟨⟨h1, h2⟩, h3⟩, h4⟩ := h
      have e := COp.of_py h1
      subst e
      exact (d_cmp (by have := k.un; omega) op (sE a k hs h2) (sE b k hs h3) h4).1
    · cases h
  | .chain op op' a b c, X, sc, x, k, hs, h => by
    unfold mE at h
    split at h
    · simp only [Bool.and_eq_true, decide_eq_true_eq, Bool.not_eq_true'] at h
      obtain ⟨⟨⟨⟨⟨h1, h2⟩, h3⟩, h4⟩, h5⟩, h6⟩ := h
      have e := COp.of_py h1
      subst e
      have e := COp.of_py h2
      subst e
      exact (d_chain (by have := k.un; omega) op op' (sE a k hs h3) (sE b k hs h4) (sE c k hs h5) h6).1
    · cases h
  | .no a, X, sc, x, k, hs, h => by
    unfold mE at h
    split at h
    · exact d_no (sE a k hs h)
    · cases h
  | .and a b, X, sc, x, k, hs, h => by
    unfold mE at h
    split at h
    · rename_i xa xb rest p
      rw [Bool.and_eq_true] at h
      cases rest with
      | nil => exact d_and (sE a k hs h.1) (pe_one (sE b k hs h.2))
      | cons xc r => exact d_and (sE a k hs h.1) (sE b k hs h.2)
    · cases h
  | .or a b, X, sc, x, k, hs, h => by
    unfold mE at h
    split at h
    · rename_i xa xb rest p
      rw [Bool.and_eq_true] at h
      cases rest with
      | nil => exact d_or (sE a k hs h.1) (pe_one (sE b k hs h.2))
      | cons xc r => exact d_or (sE a k hs h.1) (sE b k hs h.2)
    · cases h
  | .ite c a b, X, sc, x, k, hs, h => by
    unfold mE at h
    split at h
    · simp only [Bool.and_eq_true] at h
      obtain ⟨⟨⟨h0, h1⟩, h2⟩, h3⟩ := h
      exact d_ite (sT c k hs h0 h1) (sE a k hs h2) (sE b k hs h3)
    · cases h
  | .tup es, X, sc, x, k, hs, h => by
    unfold mE at h
    split at h
    · exact d_tup (sL es k hs h)
    · cases h
  | .lst es, X, sc, x, k, hs, h => by
    unfold mE at h
    split at h
    · exact d_lst (sL es k hs h)
    · cases h
  | .idx a b, X, sc, x, k, hs, h => by
    unfold mE at h
    split at h
    · simp only [Bool.and_eq_true] at h
      exact d_idx (sE a k hs h.1.1) (sE b k hs h.1.2) (plain_of h.2)
    · cases h
  | .idxO i b, X, sc, x, k, hs, h => by
    unfold mE at h
    split at h
    · simp only [Bool.and_eq_true] at h
      exact d_idxO (name_of rfl hs h.1.1) (sE b k hs h.1.2) (plain_of h.2)
    · cases h
  | .slc a lo hi, X, sc, x, k, hs, h => by
    unfold mE at h
    split at h
    · simp only [Bool.and_eq_true] at h
      exact d_slc (sE a k hs h.1.1) (sO lo k hs h.1.2) (sO hi k hs h.2)
    · cases h
  | .rev a, X, sc, x, k, hs, h => by
    unfold mE at h
    split at h
    · exact d_rev (sE a k hs h)
    · cases h
  | .call f es, X, sc, x, k, hs, h => by
    unfold mE at h
    split at h
    · rename_i y p xs pos
      simp only [Bool.and_eq_true, decide_eq_true_eq, Bool.not_eq_true'] at h
      obtain ⟨⟨⟨⟨rfl, h2⟩, h3⟩, h4⟩, h5⟩ := h
      unfold fnOk at h3
      rw [List.any_eq_true] at h3
      obtain ⟨g, hg, h6⟩ := h3
      rw [Bool.and_eq_true] at h6
      have e1 : g.name = f := by simpa using h6.1
      have e2 : g.pars = es.length := by simpa using h6.2
      subst e1
      obtain ⟨fa, fd, ps, kk, hm, hk, hb, hr, F⟩ := k.fns g hg
      have ar := sL es k hs h5
      have st := stars_of X.env pos h5
      cases xs with
      | nil =>
        refine (pe_call0 F hr (gl_of hs h2) hm hk hb .nil pass0 h4).weak fun σ H Q q => ?_
        cases es with
        | nil =>
          have z := call_read (X := X) (ct := ct) (E := E0) (f := g.name) (n := g.pars) e2.symm q
          obtain ⟨F, as, S, M, ds, S', M', rel, ev, q'⟩ := z
          simp only [denL] at ev
          cases ev
          exact q' F H as [] rel Stp.refl .nil
        | cons e es => simp [mL] at h5
      | cons x0 xr =>
        cases es with
        | nil => simp [mL] at h5
        | cons e0 er =>
          have h5' : (mE X.N T sc e0 x0 && mL X.N T sc er xr) = true := by simpa only [mL] using h5
          rw [Bool.and_eq_true] at h5'
          exact (pe_call F hr (gl_of hs h2) hm hk hb .nil pass0 ar h4 (star_of h5'.1 _ _) (stars_of X.env pos h5'.2)).weak fun σ H Q q => call_read e2.symm q
    · cases h
  | .bi p e, X, sc, x, k, hs, h => by
    unfold mE at h
    split at h
    · rename_i y q xa pos
      simp only [Bool.and_eq_true, decide_eq_true_eq] at h
      obtain ⟨⟨⟨h1, rfl⟩, h3⟩, h4⟩ := h
      exact d_bi1 k.calm h1 (gl_of hs h3) (k.blt _ (by cases p <;> simp [Bi.py, bltNames])) (sE e k hs h4) (star_of h4 _ _)
    · rename_i y q xa t q2 pos
      cases hp : p.ty with
      | none => rw [hp] at h; cases h
      | some tt =>
        rw [hp] at h
        simp only [Bool.and_eq_true, decide_eq_true_eq] at h
        obtain ⟨⟨⟨⟨rfl, rfl⟩, h3⟩, h4⟩, h5⟩ := h
        refine d_bi2 k.calm hp (gl_of hs h3) (k.blt _ (by simp [bltNames])) (gl_of hs h4) (k.blt _ ?_) (sE e k hs h5) (star_of h5 _ _)
        cases p <;> simp only [Bi.ty] at hp <;> first | (cases hp; done) | (cases hp; decide +kernel)
    · cases h
  | .lenO i, X, sc, x, k, hs, h => by
    unfold mE at h
    split at h
    · simp only [Bool.and_eq_true, decide_eq_true_eq] at h
      obtain ⟨⟨rfl, h2⟩, h3⟩ := h
      exact d_lenO (gl_of hs h2) (k.blt _ (by simp [bltNames])) (name_of rfl hs h3) (star_name h3 _ _)
    · cases h
  | .lrng a, X, sc, x, k, hs, h => by
    unfold mE at h
    split at h
    · simp only [Bool.and_eq_true, decide_eq_true_eq] at h
      obtain ⟨⟨⟨⟨rfl, rfl⟩, h3⟩, h4⟩, h5⟩ := h
      exact d_lrng k.calm (gl_of hs h3) (k.blt _ (by simp [bltNames])) (gl_of hs h4) (k.blt _ (by simp [bltNames])) (sE a k hs h5) (star_of h5 _ _)
    · cases h
  | .ndx a b, X, sc, x, k, hs, h => by
    unfold mE at h
    split at h
    · simp only [Bool.and_eq_true, decide_eq_true_eq] at h
      obtain ⟨⟨⟨⟨rfl, h2⟩, h3⟩, h4⟩, h5⟩ := h
      exact d_ndx (sE a k hs h4) (sE b k hs h5) (star_of h5 _ _) (base_of h3 _ _) h2
    · cases h
  | .popO i e, X, sc, x, k, hs, h => by
    unfold mE at h
    split at h
    · simp only [Bool.and_eq_true, decide_eq_true_eq] at h
      obtain ⟨⟨⟨rfl, h2⟩, h3⟩, h4⟩ := h
      exact d_popO (name_of rfl hs h3) (sE e k hs h4) (star_of h4 _ _) (base_of (nameB_call h3) _ _) h2
    · cases h
  | .comp g it t e own, X, sc, x, k, hs, h => by
    unfold mE at h
    split at h
    · rename_i xe tg xi ifs scope pos
      simp only [Bool.and_eq_true] at h
      obtain ⟨⟨⟨⟨⟨h1, h2⟩, h3⟩, h4⟩, h5⟩, h6⟩ := h
      have bo : BlkOk X.N X.env.scope scope own := by rw [hs]; exact blkOk_by h1
      have hsl : ∀ j ∈ g.slots, j ∈ own.map (·.2) := by
        unfold ownB at h2
        rw [List.all_eq_true] at h2
        exact fun j hj => of_decide_eq_true (h2 j hj)
      have hsc : ∀ (l : List (Str × Addr)) (C : Addr), (compEnvC scope l C X.env).scope = relS scope sc := fun l C => by rw [← hs]; rfl
      refine dE_comp k.calm k.nd (sI it k hs h3) bo hsl (fun s H C l fp => ?_) (fun s H C l fp => ?_) (fun s H C l fp => ?_) ?_
      · have kb := k.blk s H scope (compEnvC scope l C X.env) fp
        refine g_of (X := X.blk s H scope (compEnvC scope l C X.env) fp) k.calm k.nd rfl (fun y hy => ?_) h4
        have es : (compEnvC scope l C X.env).scope = relS scope sc := hsc l C
        rcases loc_of hy with q | q
        · have z : (compEnvC scope l C X.env).scope.names.lookup y = some .local := by rw [es]; exact lookup_relS_keep (by decide) q
          exact ⟨.inl z, .inr z⟩
        · have z : (compEnvC scope l C X.env).scope.names.lookup y = some .cell := by rw [es]; exact lookup_relS_keep (by decide) q
          exact ⟨.inr z, .inl (by show (scope.names.lookup y == some .cell) = true; rw [q]; rfl)⟩
      · have kb := k.blk s H scope (compEnvC scope l C X.env) fp
        cases t with
        | none =>
          cases ifs with
          | nil => exact d_ptsN (X := X.blk s H scope (compEnvC scope l C X.env) fp)
          | cons _ _ => cases h6
        | some tt =>
          cases ifs with
          | nil => cases h6
          | cons xt r =>
            cases r with
            | cons _ _ => cases h6
            | nil =>
              simp only [Bool.and_eq_true] at h6
              exact pts_one (sT tt kb (hsc l C) h6.1 h6.2)
      · exact (sE e (k.blk s H scope (compEnvC scope l C X.env) fp) (hsc l C) h5).giv
      · exact folded_mI h3 X.env
    · cases h
theorem sT : ∀ (e : XE) {X : Cx} {sc : Scope} {x : Expr}, Kx X T ct cl → X.env.scope = sc → tOk e = true → mE X.N T sc e x = true → PT X x (tDT X.K ct cl e)
  | .cmp op a b, X, sc, x, k, hs, ht, h => by
    unfold mE at h
    split at h
    · simp only [Bool.and_eq_true, decide_eq_true_eq, Bool.not_eq_true'] at h
      obtain ⟨⟨⟨h1, h2⟩, h3⟩, h4⟩ := h
      have e := COp.of_py h1
      subst e
      exact (d_cmp (by have := k.un; omega) op (sE a k hs h2) (sE b k hs h3) h4).2
    · cases h
  | .chain op op' a b c, X, sc, x, k, hs, ht, h => by
    unfold mE at h
    split at h
    · simp only [Bool.and_eq_true, decide_eq_true_eq, Bool.not_eq_true'] at h
      obtain ⟨⟨⟨⟨⟨h1, h2⟩, h3⟩, h4⟩, h5⟩, h6⟩ := h
      have e := COp.of_py h1
      subst e
      have e := COp.of_py h2
      subst e
      exact (d_chain (by have := k.un; omega) op op' (sE a k hs h3) (sE b k hs h4) (sE c k hs h5) h6).2
    · cases h
  | .no a, X, sc, x, k, hs, ht, h => by
    unfold mE at h
    split at h
    · exact d_noT (sT a k hs ht h)
    · cases h
  | .and a b, X, sc, x, k, hs, ht, h => by
    have ht' : (tOk a && tOk b) = true := ht
    rw [Bool.and_eq_true] at ht'
    unfold mE at h
    split at h
    · rename_i xa xb rest p
      rw [Bool.and_eq_true] at h
      cases rest with
      | nil => exact (d_andT (sT a k hs ht'.1 h.1) (pw_and1 (sT b k hs ht'.2 h.2))).pt
      | cons xc r => exact (d_andT (sT a k hs ht'.1 h.1) (sW b k hs ht'.2 h.2)).pt
    · cases h
  | .or a b, X, sc, x, k, hs, ht, h => by
    have ht' : (tOk a && tOk b) = true := ht
    rw [Bool.and_eq_true] at ht'
    unfold mE at h
    split at h
    · rename_i xa xb rest p
      rw [Bool.and_eq_true] at h
      cases rest with
      | nil => exact (d_orT (sT a k hs ht'.1 h.1) (pw_or1 (sT b k hs ht'.2 h.2))).pt
      | cons xc r => exact (d_orT (sT a k hs ht'.1 h.1) (sW b k hs ht'.2 h.2)).pt
    · cases h
  | .ite c a b, X, sc, x, k, hs, ht, h => by cases ht
  | .var i, X, sc, x, k, hs, ht, h => d_truth (sE (.var i) k hs h) (truth_of rfl h X.env)
  | .glob i, X, sc, x, k, hs, ht, h => d_truth (sE (.glob i) k hs h) (truth_of rfl h X.env)
  | .int i, X, sc, x, k, hs, ht, h => d_truth (sE (.int i) k hs h) (truth_of rfl h X.env)
  | .str i, X, sc, x, k, hs, ht, h => d_truth (sE (.str i) k hs h) (truth_of rfl h X.env)
  | .bl i, X, sc, x, k, hs, ht, h => d_truth (sE (.bl i) k hs h) (truth_of rfl h X.env)
  | .non, X, sc, x, k, hs, ht, h => d_truth (sE .non k hs h) (truth_of rfl h X.env)
  | .bin op a b, X, sc, x, k, hs, ht, h => d_truth (sE (.bin op a b) k hs h) (truth_of rfl h X.env)
  | .neg a, X, sc, x, k, hs, ht, h => d_truth (sE (.neg a) k hs h) (truth_of rfl h X.env)
  | .tup es, X, sc, x, k, hs, ht, h => d_truth (sE (.tup es) k hs h) (truth_of rfl h X.env)
  | .lst es, X, sc, x, k, hs, ht, h => d_truth (sE (.lst es) k hs h) (truth_of rfl h X.env)
  | .idx a b, X, sc, x, k, hs, ht, h => d_truth (sE (.idx a b) k hs h) (truth_of rfl h X.env)
  | .idxO a b, X, sc, x, k, hs, ht, h => d_truth (sE (.idxO a b) k hs h) (truth_of rfl h X.env)
  | .slc a lo hi, X, sc, x, k, hs, ht, h => d_truth (sE (.slc a lo hi) k hs h) (truth_of rfl h X.env)
  | .rev a, X, sc, x, k, hs, ht, h => d_truth (sE (.rev a) k hs h) (truth_of rfl h X.env)
  | .call f es, X, sc, x, k, hs, ht, h => d_truth (sE (.call f es) k hs h) (truth_of rfl h X.env)
  | .bi p e, X, sc, x, k, hs, ht, h => d_truth (sE (.bi p e) k hs h) (truth_of rfl h X.env)
  | .lenO i, X, sc, x, k, hs, ht, h => d_truth (sE (.lenO i) k hs h) (truth_of rfl h X.env)
  | .lrng a, X, sc, x, k, hs, ht, h => d_truth (sE (.lrng a) k hs h) (truth_of rfl h X.env)
  | .ndx a b, X, sc, x, k, hs, ht, h => d_truth (sE (.ndx a b) k hs h) (truth_of rfl h X.env)
  | .popO a b, X, sc, x, k, hs, ht, h => d_truth (sE (.popO a b) k hs h) (truth_of rfl h X.env)
  | .comp g it t e own, X, sc, x, k, hs, ht, h => d_truth (sE (.comp g it t e own) k hs h) (truth_of rfl h X.env)
theorem sW : ∀ (e : XE) {X : Cx} {sc : Scope} {op : BoolOp} {xs : List Expr} {p : Pos}, Kx X T ct cl → X.env.scope = sc → tOk e = true → mE X.N T sc e (.BoolOp op xs p) = true → PW X (.BoolOp op xs p) (tDT X.K ct cl e)
  | .and a b, X, sc, op, xs, p, k, hs, ht, h => by
    have ht' : (tOk a && tOk b) = true := ht
    rw [Bool.and_eq_true] at ht'
    unfold mE at h
    split at h
    · rename_i xa xb rest p' heq
      cases heq
      rw [Bool.and_eq_true] at h
      cases rest with
      | nil => exact d_andT (sT a k hs ht'.1 h.1) (pw_and1 (sT b k hs ht'.2 h.2))
      | cons xc r => exact d_andT (sT a k hs ht'.1 h.1) (sW b k hs ht'.2 h.2)
    · cases h
  | .or a b, X, sc, op, xs, p, k, hs, ht, h => by
    have ht' : (tOk a && tOk b) = true := ht
    rw [Bool.and_eq_true] at ht'
    unfold mE at h
    split at h
    · rename_i xa xb rest p' heq
      cases heq
      rw [Bool.and_eq_true] at h
      cases rest with
      | nil => exact d_orT (sT a k hs ht'.1 h.1) (pw_or1 (sT b k hs ht'.2 h.2))
      | cons xc r => exact d_orT (sT a k hs ht'.1 h.1) (sW b k hs ht'.2 h.2)
    · cases h
  | .cmp op a b, X, sc, o, xs, p, k, hs, ht, h => by simp [mE] at h
  | .chain op op' a b c, X, sc, o, xs, p, k, hs, ht, h => by simp [mE] at h
  | .no a, X, sc, o, xs, p, k, hs, ht, h => by simp [mE] at h
  | .ite c a b, X, sc, o, xs, p, k, hs, ht, h => by simp [mE] at h
  | .var i, X, sc, o, xs, p, k, hs, ht, h => by simp [mE, nameB] at h
  | .glob i, X, sc, o, xs, p, k, hs, ht, h => by simp [mE] at h
  | .int i, X, sc, o, xs, p, k, hs, ht, h => by simp [mE] at h
  | .str i, X, sc, o, xs, p, k, hs, ht, h => by simp [mE] at h
  | .bl i, X, sc, o, xs, p, k, hs, ht, h => by simp [mE] at h
  | .non, X, sc, o, xs, p, k, hs, ht, h => by simp [mE] at h
  | .bin op a b, X, sc, o, xs, p, k, hs, ht, h => by simp [mE] at h
  | .neg a, X, sc, o, xs, p, k, hs, ht, h => by simp [mE] at h
  | .tup es, X, sc, o, xs, p, k, hs, ht, h => by simp [mE] at h
  | .lst es, X, sc, o, xs, p, k, hs, ht, h => by simp [mE] at h
  | .idx a b, X, sc, o, xs, p, k, hs, ht, h => by simp [mE] at h
  | .idxO a b, X, sc, o, xs, p, k, hs, ht, h => by simp [mE] at h
  | .slc a lo hi, X, sc, o, xs, p, k, hs, ht, h => by simp [mE] at h
  | .rev a, X, sc, o, xs, p, k, hs, ht, h => by simp [mE] at h
  | .call f es, X, sc, o, xs, p, k, hs, ht, h => by simp [mE] at h
  | .bi q e, X, sc, o, xs, p, k, hs, ht, h => by simp [mE] at h
  | .lenO i, X, sc, o, xs, p, k, hs, ht, h => by simp [mE] at h
  | .lrng a, X, sc, o, xs, p, k, hs, ht, h => by simp [mE] at h
  | .ndx a b, X, sc, o, xs, p, k, hs, ht, h => by simp [mE] at h
  | .popO a b, X, sc, o, xs, p, k, hs, ht, h => by simp [mE] at h
  | .comp g it t e own, X, sc, o, xs, p, k, hs, ht, h => by simp [mE] at h
theorem sL : ∀ (es : List XE) {X : Cx} {sc : Scope} {xs : List Expr}, Kx X T ct cl → X.env.scope = sc → mL X.N T sc es xs = true → PA X xs (tDL X.K ct cl es)
  | [], X, sc, xs, k, hs, h => by
    cases xs with
    | nil => exact d_nil
    | cons _ _ => simp [mL] at h
  | e :: es, X, sc, xs, k, hs, h => by
    cases xs with
    | nil => simp [mL] at h
    | cons x xs =>
      simp only [mL, Bool.and_eq_true] at h
      exact d_cons (sE e k hs h.1) (sL es k hs h.2) (star_of h.1 _ _)
theorem sO : ∀ (e : Option XE) {X : Cx} {sc : Scope} {x : Option Expr}, Kx X T ct cl → X.env.scope = sc → mO X.N T sc e x = true → PO X x (tDO X.K ct cl e)
  | none, X, sc, x, k, hs, h => by
    cases x with
    | none => exact d_ono
    | some _ => simp [mO] at h
  | some e, X, sc, x, k, hs, h => by
    cases x with
    | none => simp [mO] at h
    | some x =>
      simp only [mO] at h
      exact d_osome (sE e k hs h)
theorem sI : ∀ (it : XI) {X : Cx} {sc : Scope} {tg x : Expr}, Kx X T ct cl → X.env.scope = sc → mI X.N T sc it x = true → PI X tg x (tDI X.K ct cl it)
  | .seq e, X, sc, tg, x, k, hs, h => by
    simp only [mI, Bool.and_eq_true] at h
    exact d_iseq (sE e k hs h.1)
  | .rng1 a, X, sc, tg, x, k, hs, h => by
    unfold mI at h
    split at h
    · simp only [Bool.and_eq_true, decide_eq_true_eq] at h
      obtain ⟨⟨rfl, h2⟩, h3⟩ := h
      exact d_irng1 (gl_of hs h2) (k.blt _ (by simp [bltNames])) (sE a k hs h3) (star_of h3 _ _)
    · cases h
  | .rng2 a b, X, sc, tg, x, k, hs, h => by
    unfold mI at h
    split at h
    · simp only [Bool.and_eq_true, decide_eq_true_eq] at h
      obtain ⟨⟨⟨rfl, h2⟩, h3⟩, h4⟩ := h
      exact d_irng2 (gl_of hs h2) (k.blt _ (by simp [bltNames])) (sE a k hs h3) (sE b k hs h4) (by rw [star_of h3, star_of h4]; rfl) (by rw [star_of h4]; rfl)
    · cases h
end
end
end DL

end
section
set_option maxHeartbeats 4000000
/-! DG: statements, defs. -/
namespace DL
open PySem PySem.Spec L2

section
variable (K : PySem.W.Frag) (ct : Nat → Addr) (cl : CL)
def EndOk (D : Ends) (F' H' : Hp) (as' : List Addr) (σ' : L2.St) : Out → Prop
  | .nx => D.nx σ' H'
  | .bk => D.bk σ' H'
  | .ct => D.ct σ' H'
  | .rt d => ∀ v, Rep K F' as' v d → D.rt v H'
def tDS (s : XS) : TS := fun D σ H => ∃ F as S M o S' M', Rel K ct F H as σ S M ∧ denS cl s (S, M) = some (o, (S', M')) ∧
  ∀ F' H' as' σ', Rel K ct F' H' as' σ' S' M' → Stp F H as σ S F' H' as' σ' S' → EndOk K D F' H' as' σ' o
def tDB (s : List XS) : TS := fun D σ H => ∃ F as S M o S' M', Rel K ct F H as σ S M ∧ denB cl s (S, M) = some (o, (S', M')) ∧
  ∀ F' H' as' σ', Rel K ct F' H' as' σ' S' M' → Stp F H as σ S F' H' as' σ' S' → EndOk K D F' H' as' σ' o
end

section
variable {X : Cx} {ct : Nat → Addr} {cl : CL}
/-- the reading of a store to a name, of a value -/
theorem asg_read {i : Nat} {e : XE} {D : Ends} {σ : L2.St} {H : Hp} (h : tDS X.K ct cl (.asg (.nm i) e) D σ H) : tAsg (tD0 X.K ct cl e) (gName i) D σ H := by
  obtain ⟨F, as, S, M, o, S', M', rel, ev, q⟩ := h
  simp only [denS, Option.bind_eq_some_iff, Option.map_eq_some_iff] at ev
  obtain ⟨⟨x, s1⟩, ea, T1, eg, e2⟩ := ev
  cases e2
  simp only [setG] at eg
  cases eg
  refine ⟨F, as, S, M, x, s1.1, s1.2, rel, ea, fun F1 H1 as1 v rel1 stp1 res => ?_⟩
  refine res.given (Q := fun v H1 => gName i v σ H1 D.nx) rel1 stp1 fun F2 rel2 stp2 rep => ?_
  obtain ⟨rel3, stp3⟩ := rel2.set (i := i) rep
  exact q F2 H1 as1 _ rel3 (stp2.trans stp3)
theorem setO_read {i : Nat} {e : XE} {D : Ends} {σ : L2.St} {H : Hp} (h : tDS X.K ct cl (.setO i e) D σ H) : tAsg (tD0 X.K ct cl e) (gName i) D σ H := by
  obtain ⟨F, as, S, M, o, S', M', rel, ev, q⟩ := h
  simp only [denS, Option.bind_eq_some_iff] at ev
  obtain ⟨⟨x, s1⟩, ea, e2⟩ := ev
  cases x with
  | v d => cases e2
  | fl ds =>
    dsimp only at e2
    split at e2
    · rename_i hi
      cases e2
      refine ⟨F, as, S, M, .fl ds, s1.1, s1.2, rel, ea, fun F1 H1 as1 v rel1 stp1 res => ?_⟩
      obtain ⟨p, vs, rfl, h1, h2, h3, h4, h5, h6⟩ := res
      obtain ⟨rel3, stp3⟩ := rel1.setOwn stp1 hi h1 h2 h3 h4 h5 h6
      exact q F1 H1 as1 _ rel3 stp3
    · cases e2
theorem setM_read {i : Nat} {e : XE} {D : Ends} {σ : L2.St} {H : Hp} (h : tDS X.K ct cl (.setM i e) D σ H) : tAsg (tD0 X.K ct cl e) (gName i) D σ H := by
  obtain ⟨F, as, S, M, o, S', M', rel, ev, q⟩ := h
  simp only [denS, Option.bind_eq_some_iff] at ev
  obtain ⟨⟨x, s1⟩, ea, e2⟩ := ev
  cases x with
  | v d => cases e2
  | fl ds =>
    dsimp only at e2
    cases e2
    refine ⟨F, as, S, M, .fl ds, s1.1, s1.2, rel, ea, fun F1 H1 as1 v rel1 stp1 res => ?_⟩
    obtain ⟨p, vs, rfl, h1, h2, h3, h4, h5, h6⟩ := res
    obtain ⟨rel3, stp3⟩ := rel1.newM (mo := .lst ds) stp1 h1 h3 h4 h5 ⟨vs, h2, h6⟩
    have hr : Rep X.K F1 (as1 ++ [p]) (.ref p) (.adr s1.2.length) := .adr (by
      rw [← rel1.len, List.getElem?_append_right (Nat.le_refl _), Nat.sub_self]
      rfl)
    obtain ⟨rel4, stp4⟩ := rel3.set (i := i) hr
    exact q F1 H1 _ _ rel4 (stp3.trans stp4)
theorem tupG_read {is : List Nat} {e : XE} {D : Ends} {σ : L2.St} {H : Hp} (h : tDS X.K ct cl (.asg (.tup is) e) D σ H) : tAsg (tD X.K ct cl e) (tDG X.K ct (.tup is)) D σ H := by
  obtain ⟨F, as, S, M, o, S', M', rel, ev, q⟩ := h
  simp only [denS, Option.bind_eq_some_iff, Option.map_eq_some_iff] at ev
  obtain ⟨⟨x, s1⟩, ea, T1, eg, e2⟩ := ev
  cases e2
  exact ⟨F, as, S, M, x, s1.1, s1.2, rel, ea, fun F1 H1 as1 v rel1 stp1 rep => ⟨F1, as1, s1.1, s1.2, x.d, _, rel1, rep, eg, fun F2 H2 as2 σ2 rel2 stp2 _ _ => q F2 H2 as2 σ2 rel2 (stp1.trans stp2)⟩⟩
theorem app_read {i : Nat} {e : XE} {D : Ends} {σ : L2.St} {H : Hp} (h : tDS X.K ct cl (.app i e) D σ H) : tDrop (tBM X.K "list" rAppend (tVar i) (tCons (tD X.K ct cl e) tNil)) D σ H := by
  obtain ⟨F, as, S, M, o, S', M', rel, ev, q⟩ := h
  simp only [denS, Option.bind_eq_some_iff] at ev
  obtain ⟨xs0, ex0, ⟨x, s1⟩, ea, xs, ex, e2⟩ := ev
  split at e2
  · rename_i hl
    cases e2
    obtain ⟨a0, vs0, hv, hH0, _⟩ := rel.own i xs0 (readO_some ex0)
    refine ⟨.ref a0, hv, .inl ⟨rfl, vs0, SqL.of hH0⟩, F, as, S, M, x, s1.1, s1.2, rel, ea, fun F1 H1 as1 v rel1 stp1 rep1 => ?_⟩
    obtain ⟨a, vs, h1, h2, h3, h4, h5⟩ := rel1.own i xs (readO_some ex)
    rw [hv] at h1
    cases h1
    refine ⟨a0, vs, v, rfl, rfl, h2, by rw [h3.length]; exact hl, ?_⟩
    obtain ⟨rel2, stp2⟩ := rel1.updOwn (readO_some ex) hv h2 (h3.append (.cons rep1 .nil))
    exact q F1 _ as1 σ rel2 (stp1.trans stp2)
  · cases e2
theorem listM_some {M : List MO} {d : D} {n : Nat} {xs : List D} (h : listM M d = some (n, xs)) : d = .adr n ∧ M[n]? = some (.lst xs) := by
  unfold listM at h
  split at h
  · split at h
    · cases h
      exact ⟨rfl, by assumption⟩
    · cases h
  · cases h
theorem appM_read {a e : XE} {D : Ends} {σ : L2.St} {H : Hp} (h : tDS X.K ct cl (.appM a e) D σ H) : tDrop (tBM X.K "list" rAppend (tD X.K ct cl a) (tCons (tD X.K ct cl e) tNil)) D σ H := by
  obtain ⟨F, as, S, M, o, S', M', rel, ev, q⟩ := h
  simp only [denS, Option.bind_eq_some_iff] at ev
  obtain ⟨⟨r, s0⟩, er, ⟨n0, xs0⟩, ex0, ⟨x, s1⟩, ea, ⟨n, xs⟩, ex, e2⟩ := ev
  dsimp only at e2
  split at e2
  · rename_i hl
    cases e2
    obtain ⟨g1, g2⟩ := listM_some ex0
    obtain ⟨g3, g4⟩ := listM_some ex
    have e : DL.D.adr n0 = DL.D.adr n := g1.symm.trans g3
    cases e
    refine ⟨F, as, S, M, r, s0.1, s0.2, rel, er, fun F0 H0 as0 u rel0 stp0 rep0 => ?_⟩
    rw [g1] at rep0
    cases rep0 with
    | adr hn =>
      rename_i p
      obtain ⟨_, vs0, hH0, _⟩ := rel0.mo _ p _ hn g2
      refine ⟨.inl ⟨rfl, vs0, SqL.of hH0⟩, F0, as0, s0.1, s0.2, x, s1.1, s1.2, rel0, ea, fun F1 H1 as1 v rel1 stp1 rep1 => ?_⟩
      have hn1 := stp1.pre _ p hn
      obtain ⟨_, vs, hH, rl⟩ := rel1.mo _ p _ hn1 g4
      refine ⟨p, vs, v, rfl, rfl, hH, by rw [rl.length]; exact hl, ?_⟩
      obtain ⟨rel2, stp2⟩ := rel1.updM (ho := .lst (vs ++ [v])) (mo' := .lst (xs ++ [x.d])) hn1 g4 ⟨_, upd_same, rl.append (.cons rep1 .nil)⟩
      exact q F1 _ as1 σ rel2 ((stp0.trans stp1).trans stp2)
  · cases e2
theorem put_read {a i e : XE} {D : Ends} {σ : L2.St} {H : Hp} (h : tDS X.K ct cl (.put a i e) D σ H) : tAsg (tD X.K ct cl e) (gSub (tD X.K ct cl a) (tD X.K ct cl i) rSetL) D σ H := by
  obtain ⟨F, as, S, M, o, S', M', rel, ev, q⟩ := h
  simp only [denS, Option.bind_eq_some_iff, Option.map_eq_some_iff] at ev
  obtain ⟨⟨x, s1⟩, ex, ⟨r, s2⟩, er, ⟨k, s3⟩, ek, M2, em, e2⟩ := ev
  cases e2
  refine ⟨F, as, S, M, x, s1.1, s1.2, rel, ex, fun F1 H1 as1 v rel1 stp1 rep1 => ⟨F1, as1, s1.1, s1.2, r, s2.1, s2.2, rel1, er, fun F2 H2 as2 w rel2 stp2 rep2 => ⟨F2, as2, s2.1, s2.2, k, s3.1, s3.2, rel2, ek, fun F3 H3 as3 u rel3 stp3 rep3 => ?_⟩⟩⟩
  have rep2' := rep2.mono stp3.sub stp3.pre
  generalize r.d = dr at em rep2'
  generalize k.d = dk at em rep3
  cases rep3 with
  | int j =>
    cases rep2' with
    | @adr p n hn =>
      simp only [putM] at em
      split at em
      · rename_i xs hM
        obtain ⟨jj, ej, rfl⟩ := Option.map_eq_some_iff.mp em
        obtain ⟨_, vs, hH, rl⟩ := rel3.mo n p _ hn hM
        refine ⟨p, vs, j, jj, rfl, rfl, hH, by rw [rl.length]; exact ej, ?_⟩
        obtain ⟨rel4, stp4⟩ := rel3.updM (ho := .lst (vs.set jj v)) (mo' := .lst (xs.set jj x.d)) hn hM ⟨_, upd_same, rl.set (rep1.mono (stp2.trans stp3).sub (stp2.trans stp3).pre) jj⟩
        exact q F3 _ as3 σ rel4 (((stp1.trans stp2).trans stp3).trans stp4)
      · cases em
    | _ => simp only [putM] at em; cases em
  | _ => cases rep2' <;> simp only [putM] at em <;> (cases em; done)
def augR (op : BOp) : TIp := match op with
  | .add => fun x y H Q => rI0 (fun i j => .int (i + j)) x y H Q ∨ (∃ i j, x = .str i ∧ y = .str j ∧ i.length + j.length ≤ sizeLine ∧ Q (.str (i ++ j)) H)
  | .sub => rI0 (fun i j => .int (i - j))
  | _ => fun _ _ _ _ => False
theorem aug_op (op : BOp) : PIp X op.py (augR op) := by
  cases op with
  | add => exact fun pins s σ H x y v u Q I rx ry h => iop_add.or iop_add_str pins s σ H x y v u Q I rx ry h
  | sub => exact fun pins s σ H x y v u Q I rx ry h => iop_sub pins s σ H x y v u Q I rx ry h
  | _ => exact fun pins s σ H x y v u Q I rx ry h => h.elim
theorem aug_read {i : Nat} {op : BOp} {e : XE} {D : Ends} {σ : L2.St} {H : Hp} (h : tDS X.K ct cl (.aug i op e) D σ H) : tAug i (tD X.K ct cl e) (augR op) D σ H := by
  obtain ⟨F, as, S, M, o, S', M', rel, ev, q⟩ := h
  simp only [denS] at ev
  split at ev
  · rename_i d hd
    simp only [Option.bind_eq_some_iff, Option.map_eq_some_iff] at ev
    obtain ⟨⟨x, s1⟩, ea, w, ew, e2⟩ := ev
    cases e2
    obtain ⟨v, hv, hr⟩ := rel.val i d hd
    refine ⟨v, hv, F, as, S, M, x, s1.1, s1.2, rel, ea, fun F1 H1 as1 u rel1 stp1 rep1 => ?_⟩
    have fin : ∀ z, Rep X.K F1 as1 z w → D.nx (σ.set i (some z)) H1 := fun z hz => by
      obtain ⟨rel2, stp2⟩ := rel1.set (i := i) hz
      exact q F1 H1 as1 _ rel2 (stp1.trans stp2)
    have hr1 := hr.mono stp1.sub stp1.pre
    generalize x.d = dx at ew rep1
    unfold augD at ew
    split at ew
    · cases ew
      cases hr1
      cases rep1
      exact .inl ⟨_, _, rfl, rfl, fin _ (.int _)⟩
    · split at ew
      · rename_i hl
        cases ew
        cases hr1
        cases rep1
        exact .inr ⟨_, _, rfl, rfl, hl, fin _ (.str _)⟩
      · cases ew
    · cases ew
      cases hr1
      cases rep1
      exact ⟨_, _, rfl, rfl, fin _ (.int _)⟩
    · cases ew
  · cases ev
theorem ret_read {e : XE} {D : Ends} {σ : L2.St} {H : Hp} (h : tDS X.K ct cl (.ret e) D σ H) : tRet (tD X.K ct cl e) D σ H := by
  obtain ⟨F, as, S, M, o, S', M', rel, ev, q⟩ := h
  simp only [denS, Option.map_eq_some_iff] at ev
  obtain ⟨⟨x, s1⟩, ea, e2⟩ := ev
  cases e2
  exact ⟨F, as, S, M, x, S', M', rel, ea, fun F1 H1 as1 v rel1 stp1 rep1 => q F1 H1 as1 σ rel1 stp1 v rep1⟩
theorem drop_read {e : XE} {D : Ends} {σ : L2.St} {H : Hp} (h : tDS X.K ct cl (.drop e) D σ H) : tDrop (tD X.K ct cl e) D σ H := by
  obtain ⟨F, as, S, M, o, S', M', rel, ev, q⟩ := h
  simp only [denS, Option.map_eq_some_iff] at ev
  obtain ⟨⟨x, s1⟩, ea, e2⟩ := ev
  cases e2
  exact ⟨F, as, S, M, x, S', M', rel, ea, fun F1 H1 as1 v rel1 stp1 rep1 => q F1 H1 as1 σ rel1 stp1⟩
theorem if_read {c : XE} {a b : List XS} {D : Ends} {σ : L2.St} {H : Hp} (h : tDS X.K ct cl (.ife c a b) D σ H) : tIfS (tDT X.K ct cl c) (tDB X.K ct cl a) (tDB X.K ct cl b) D σ H := by
  obtain ⟨F, as, S, M, o, S', M', rel, ev, q⟩ := h
  simp only [denS, Option.bind_eq_some_iff] at ev
  obtain ⟨⟨x, s1⟩, ea, k, ek, e2⟩ := ev
  refine ⟨F, as, S, M, k, s1.1, s1.2, rel, ?_, fun F1 H1 as1 rel1 stp1 => ?_⟩
  · simp only [denT, ea, Option.bind_some, ek, Option.map_some]
  · cases k with
    | true =>
      rw [if_pos rfl]
      exact ⟨F1, as1, s1.1, s1.2, o, S', M', rel1, e2, fun F2 H2 as2 σ2 rel2 stp2 => q F2 H2 as2 σ2 rel2 (stp1.trans stp2)⟩
    | false =>
      rw [if_neg Bool.false_ne_true]
      exact ⟨F1, as1, s1.1, s1.2, o, S', M', rel1, e2, fun F2 H2 as2 σ2 rel2 stp2 => q F2 H2 as2 σ2 rel2 (stp1.trans stp2)⟩
theorem for_read {g : XG} {it : XI} {body : List XS} {D : Ends} {σ : L2.St} {H : Hp} (h : tDS X.K ct cl (.loop g it body) D σ H) : tFor (tDI X.K ct cl it) (tDG X.K ct g) (tDB X.K ct cl body) D σ H := by
  obtain ⟨F, as, S, M, o, S', M', rel, ev, q⟩ := h
  simp only [denS, Option.bind_eq_some_iff] at ev
  obtain ⟨⟨xs, s1⟩, ei, ef⟩ := ev
  refine ⟨F, as, S, M, xs, s1.1, s1.2, rel, ei, fun F1 H1 as1 J rel1 stp1 jt => ?_⟩
  refine ⟨fun i m σ' H' => m = xs.length - i ∧ i ≤ xs.length ∧ ∃ F' as' T N, Rel X.K ct F' H' as' σ' T N ∧ Stp F1 H1 as1 σ s1.1 F' H' as' σ' T ∧ forD (setG g) (denB cl body) (xs.drop i) (T, N) = some (o, (S', M')), ⟨xs.length, by simp, Nat.zero_le _, F1, as1, s1.1, s1.2, rel1, Stp.refl, by rw [List.drop_zero]; exact ef⟩, ?_⟩
  rintro i m σ' H' ⟨rfl, hi, F', as', T, N, rl, st, ev⟩
  obtain ⟨jstop, jgo⟩ := jt st.sub st.pre rl i
  by_cases hlt : i < xs.length
  · have hx : xs[i]? = some xs[i] := List.getElem?_eq_getElem hlt
    obtain ⟨go, yld⟩ := jgo _ hx
    rw [List.drop_eq_getElem_cons hlt] at ev
    simp only [forD, Option.bind_eq_some_iff] at ev
    obtain ⟨T1, eg, ⟨o1, s2⟩, eb, ev⟩ := ev
    refine .inr ⟨go, fun σ2 H2 => ∃ F' as' T N, Rel X.K ct F' H2 as' σ2 T N ∧ Stp F1 H1 as1 σ s1.1 F' H2 as' σ2 T ∧ forD (setG g) (denB cl body) (xs.drop (i + 1)) (T, N) = some (o, (S', M')), fun σ2 H2 p => ⟨xs.length - (i + 1), by omega, rfl, hlt, p⟩, fun x H2 y => ?_⟩
    obtain ⟨F2, rl2, st2, rx⟩ := yld x H2 y
    refine ⟨F2, as', T, N, _, T1, rl2, rx, eg, fun F3 H3 as3 σ3 rl3 st3 _ _ => ⟨F3, as3, T1, N, o1, s2.1, s2.2, rl3, eb, fun F4 H4 as4 σ4 rl4 st4 => ?_⟩⟩
    have st14 := ((st.trans st2).trans st3).trans st4
    cases o1 with
    | nx => exact ⟨F4, as4, s2.1, s2.2, rl4, st14, ev⟩
    | ct => exact ⟨F4, as4, s2.1, s2.2, rl4, st14, ev⟩
    | bk =>
      cases ev
      exact q F4 H4 as4 σ4 rl4 (stp1.trans st14)
    | rt d =>
      cases ev
      exact q F4 H4 as4 σ4 rl4 (stp1.trans st14)
  · have e : i = xs.length := by omega
    subst e
    refine .inl ⟨jstop (Nat.le_refl _), ?_⟩
    rw [List.drop_length] at ev
    simp only [forD] at ev
    cases ev
    exact q F' H' as' σ' rl (stp1.trans st)
theorem wh_read {c : XE} {body : List XS} {D : Ends} {σ : L2.St} {H : Hp} (h : tDS X.K ct cl (.wh c body) D σ H) : tWhile (tDT X.K ct cl c) (tDB X.K ct cl body) D σ H := by
  obtain ⟨F, as, S, M, o, S', M', rel, ev, q⟩ := h
  simp only [denS] at ev
  refine ⟨fun m σ' H' => ∃ F' as' T N, Rel X.K ct F' H' as' σ' T N ∧ Stp F H as σ S F' H' as' σ' T ∧ whD (fun s => (den cl c s).bind fun (x, s1) => (truD s1.2 x.d).map fun k => (k, s1)) (denB cl body) m (T, N) = some (o, (S', M')), ⟨big, F, as, S, M, rel, Stp.refl, ev⟩, ?_⟩
  rintro m σ' H' ⟨F', as', T, N, rl, st, ev⟩
  cases m with
  | zero => simp [whD] at ev
  | succ m =>
    simp only [whD, Option.bind_eq_some_iff] at ev
    obtain ⟨⟨b, s1⟩, ⟨⟨x, s0⟩, ea, ek⟩, ev⟩ := ev
    obtain ⟨k, ek, e3⟩ := Option.map_eq_some_iff.mp ek
    cases e3
    refine ⟨F', as', T, N, b, s0.1, s0.2, rl, ?_, fun F1 H1 as1 rl1 st1 => ?_⟩
    · simp only [denT, ea, Option.bind_some]
      exact ek
    · cases b with
      | false =>
        rw [if_neg Bool.false_ne_true]
        cases ev
        exact q F1 H1 as1 σ' rl1 (st.trans st1)
      | true =>
        rw [if_pos rfl]
        simp only [Option.bind_eq_some_iff] at ev
        obtain ⟨⟨o1, s2⟩, eb, ev⟩ := ev
        refine ⟨fun σ2 H2 => ∃ F' as' T N, Rel X.K ct F' H2 as' σ2 T N ∧ Stp F H as σ S F' H2 as' σ2 T ∧ whD (fun s => (den cl c s).bind fun (x, s1) => (truD s1.2 x.d).map fun k => (k, s1)) (denB cl body) m (T, N) = some (o, (S', M')), fun σ2 H2 p => ⟨m, Nat.lt_succ_self m, p⟩, F1, as1, s0.1, s0.2, o1, s2.1, s2.2, rl1, eb, fun F4 H4 as4 σ4 rl4 st4 => ?_⟩
        have st14 := (st.trans st1).trans st4
        cases o1 with
        | nx => exact ⟨F4, as4, s2.1, s2.2, rl4, st14, ev⟩
        | ct => exact ⟨F4, as4, s2.1, s2.2, rl4, st14, ev⟩
        | bk =>
          cases ev
          exact q F4 H4 as4 σ4 rl4 st14
        | rt d =>
          cases ev
          exact q F4 H4 as4 σ4 rl4 st14
theorem nx_read {s : XS} {o : Out} {D : Ends} {σ : L2.St} {H : Hp} (he : ∀ S, denS cl s S = some (o, S)) (h : tDS X.K ct cl s D σ H) : ∃ F as, EndOk X.K D F H as σ o := by
  obtain ⟨F, as, S, M, o', S', M', rel, ev, q⟩ := h
  rw [he] at ev
  cases ev
  exact ⟨F, as, q F H as σ rel Stp.refl⟩
end

/-! ### the main theorem on statements -/
theorem pnever {X : Cx} (h : X.xe = fun _ _ => False) : PassesOwn (model X.prog X.w) X.A X.env X.xe := by
  rw [h]
  exact PassesOwn.never
theorem swap_false {x : Expr} (h : isComp x = false) (t : Option Expr) (l : Nat) (env : Env) : swapsWith x t l env = pure false := by
  cases x <;> first | (cases h; done) | (cases t <;> rfl)
theorem swap_tup {x : Expr} {xs : List Expr} {k : Nat} {p : Pos} (l : Nat) (env : Env) : swapsWith x (some (.Tuple xs k p)) l env = pure false := by
  cases x <;> rfl
theorem swap_no {elt : Expr} {gs : List Comprehension} {scope : Scope} {pos py : Pos} {y : Str} {l : Nat} {env : Env} {sc : Scope} (hs : env.scope = sc) (hk : sc.kind = .function) (h : swapB sc y py (.ListComp elt gs scope pos) = false) : swapsWith (.ListComp elt gs scope pos) (some (.Name y py)) l env = pure false := by
  have hb : env.blockKind = .function := by unfold Env.blockKind; rw [hs, hk]; rfl
  have hy : (env.kindOf y == some .local) = decide (sc.names.lookup y = some .local) := by
    show (env.scope.names.lookup y == some .local) = _
    rw [hs]
    by_cases e : sc.names.lookup y = some NameKind.local
    · rw [e]; rfl
    · rw [decide_eq_false e]
      exact beq_eq_false_iff_ne.mpr e
  unfold swapsWith
  simp only [hb, hy, Expr.pos]
  unfold swapB at h
  simp only at h
  show (pure (((ScopeKind.function == ScopeKind.function) && decide (sc.names.lookup y = some .local) && (py.line == pos.line)) && !(scope.names.any fun (n, k) => n == y && (k == .local || k == .cell))) : Sem Bool) = pure false
  rw [show ((ScopeKind.function == ScopeKind.function) : Bool) = true from rfl, Bool.true_and, h]
section
variable {T : Tbl} {ct : Nat → Addr} {cl : CL}
/-- a store of an expression's value to a name -/
theorem set_ok {e : XE} {i : Nat} {X : Cx} {sc : Scope} {tg v : Expr} {p : Pos} (k : Kx X T ct cl) (hfn : ∀ y, X.fn y = true) (hs : X.env.scope = sc) (h1 : mE X.N T sc e v = true) (h2 : nameTgt X.N sc i tg = true) (h3 : sc.kind = .function) : PS X (.Assign [tg] v p) (tAsg (tD0 X.K ct cl e) (gName i)) := by
  unfold nameTgt at h2
  split at h2
  · rename_i y py
    simp only [Bool.and_eq_true, decide_eq_true_eq] at h2
    have hx : L2.Loc X.env.scope y := by rw [hs]; exact loc_of h2.2
    have pe := sE e k hs h1
    by_cases hc : isComp v = true
    · -- a comprehension
      cases v with
      | ListComp elt gs scope pos =>
        by_cases hw : swapB sc y py (.ListComp elt gs scope pos) = true
        · have hw' := hw
          unfold swapB at hw'
          simp only [Bool.and_eq_true, decide_eq_true_eq, Bool.not_eq_true'] at hw'
          obtain ⟨⟨w1, w2⟩, w3⟩ := hw'
          have wl : X.env.scope.names.lookup y = some .local := by rw [hs]; exact w1
          cases e with
          | comp g it t e' own =>
            unfold mE at h1
            split at h1
            · rename_i xe tg' xi ifs scope' pos' heq
              cases heq
              simp only [Bool.and_eq_true] at h1
              obtain ⟨⟨⟨⟨⟨b1, b2⟩, b3⟩, b4⟩, b5⟩, b6⟩ := h1
              have bo : BlkOk X.N X.env.scope scope own := by rw [hs]; exact blkOk_by b1
              have hsl : ∀ j ∈ g.slots, j ∈ own.map (·.2) := by
                unfold ownB at b2
                rw [List.all_eq_true] at b2
                exact fun j hj => of_decide_eq_true (b2 j hj)
              have hsc : ∀ (l : List (Str × Addr)) (C : Addr), (compEnvC scope l C X.env).scope = relS scope sc := fun l C => by rw [← hs]; rfl
              have main : PS X (.Assign [.Name y py] (.ListComp elt [⟨tg', xi, ifs, 0⟩] scope pos) p) (tAsg (tLc (tDI X.K ct cl it) (tDG X.K ct g) (tDTo X.K ct cl t) (tD X.K ct cl e') (own.map (·.2))) (gName i)) := by
                refine ps_setLc k.calm k.nd h2.1 wl (sw_true (by rw [hs]; exact h3) wl w2 w3) (sI it k hs b3) bo (fun s H C l fp => ?_) (fun s H C l fp => ?_) (fun s H C l fp => ?_) (folded_mI b3 X.env)
                · refine g_of (X := X.blk s H scope (compEnvC scope l C X.env) fp) k.calm k.nd rfl (fun y hy => ?_) b4
                  have es : (compEnvC scope l C X.env).scope = relS scope sc := hsc l C
                  rcases loc_of hy with q | q
                  · have z : (compEnvC scope l C X.env).scope.names.lookup y = some .local := by rw [es]; exact lookup_relS_keep (by decide) q
                    exact ⟨.inl z, .inr z⟩
                  · have z : (compEnvC scope l C X.env).scope.names.lookup y = some .cell := by rw [es]; exact lookup_relS_keep (by decide) q
                    exact ⟨.inr z, .inl (by show (scope.names.lookup y == some .cell) = true; rw [q]; rfl)⟩
                · have kb := k.blk s H scope (compEnvC scope l C X.env) fp
                  cases t with
                  | none =>
                    cases ifs with
                    | nil => exact d_ptsN (X := X.blk s H scope (compEnvC scope l C X.env) fp)
                    | cons _ _ => cases b6
                  | some tt =>
                    cases ifs with
                    | nil => cases b6
                    | cons xt r =>
                      cases r with
                      | cons _ _ => cases b6
                      | nil =>
                        simp only [Bool.and_eq_true] at b6
                        exact pts_one (sT tt kb (hsc l C) b6.1 b6.2)
                · exact (sE e' (k.blk s H scope (compEnvC scope l C X.env) fp) (hsc l C) b5).giv
              exact main.weak fun D σ H q => comp_read hsl q
            · cases h1
          | _ => simp [mE, nameB] at h1
        · have hw' : swapB sc y py (.ListComp elt gs scope pos) = false := by simpa using hw
          exact ps_set k.nd h2.1 hx pe (swap_no hs h3 hw') (.inl (hfn y))
      | SetComp a b c d => cases e <;> simp [mE, nameB] at h1
      | DictComp a b c d f => cases e <;> simp [mE, nameB] at h1
      | _ => cases hc
    · have hc' : isComp v = false := by simpa using hc
      exact ps_set k.nd h2.1 hx pe (swap_false hc' _ _ _) (.inl (hfn y))
  · cases h2
theorem hl_of {X : Cx} {sc : Scope} (hfn : ∀ y, X.fn y = true) (hs : X.env.scope = sc) : ∀ y, locB sc y = true → L2.Loc X.env.scope y ∧ (X.fn y = true ∨ X.env.scope.names.lookup y = some .local) := fun y hy => ⟨by rw [hs]; exact loc_of hy, .inl (hfn y)⟩
mutual
theorem sS : ∀ (s : XS) {X : Cx} {sc : Scope} {st : Stmt}, Kx X T ct cl → (∀ y, X.fn y = true) → X.env.scope = sc → mS X.N T sc s st = true → PS X st (tDS X.K ct cl s)
  | .asg g e, X, sc, st, k, hfn, hs, h => by
    unfold mS at h
    split at h
    · rename_i tg v p
      rw [Bool.and_eq_true] at h
      cases g with
      | nm i =>
        simp only [Bool.and_eq_true, decide_eq_true_eq] at h
        exact (set_ok k hfn hs h.1 h.2.1 h.2.2).weak fun D σ H q => asg_read q
      | tup is =>
        simp only [Bool.and_eq_true, Bool.not_eq_true'] at h
        obtain ⟨h1, h2, h3⟩ := h
        have hg := g_of (ct := ct) k.calm k.nd rfl (hl_of hfn hs) h2
        unfold mG at h2
        split at h2
        · rename_i q; cases q
        · rename_i q
          cases q
          refine (ps_asg (sE e k hs h1).giv hg (by cases v <;> rfl) ?_ ?_).weak fun D σ H q => tupG_read q
          · cases v <;> first | rfl | (cases h3; done)
          · rfl
        · cases h2
    · cases h
  | .setO i e, X, sc, st, k, hfn, hs, h => by
    unfold mS at h
    split at h
    · simp only [Bool.and_eq_true, decide_eq_true_eq] at h
      exact (set_ok k hfn hs h.1.1 h.1.2 h.2).weak fun D σ H q => setO_read q
    · cases h
  | .setM i e, X, sc, st, k, hfn, hs, h => by
    unfold mS at h
    split at h
    · simp only [Bool.and_eq_true, decide_eq_true_eq] at h
      exact (set_ok k hfn hs h.1.1 h.1.2 h.2).weak fun D σ H q => setM_read q
    · cases h
  | .app i e, X, sc, st, k, hfn, hs, h => by
    unfold mS at h
    split at h
    · simp only [Bool.and_eq_true, decide_eq_true_eq] at h
      obtain ⟨⟨⟨rfl, h2⟩, h3⟩, h4⟩ := h
      exact (ps_expr (pe_bm PySem.F.plainAttrs_list PySem.F.slot_list_append PySem.F.type_list_append mt_append (name_of rfl hs h3) (pa_cons (sE e k hs h4).giv pa_nil (star_of h4 _ _)) (base_of (nameB_call h3) _ _) (by rw [star_of h4]; rfl) h2 (star_of h4 _ _))).weak fun D σ H q => app_read q
    · cases h
  | .appM a e, X, sc, st, k, hfn, hs, h => by
    unfold mS at h
    split at h
    · simp only [Bool.and_eq_true, decide_eq_true_eq] at h
      obtain ⟨⟨⟨⟨rfl, h2⟩, h3⟩, h4⟩, h5⟩ := h
      exact (ps_expr (pe_bm PySem.F.plainAttrs_list PySem.F.slot_list_append PySem.F.type_list_append mt_append (sE a k hs h4).giv (pa_cons (sE e k hs h5).giv pa_nil (star_of h5 _ _)) (base_of h3 _ _) (by rw [star_of h5]; rfl) h2 (star_of h5 _ _))).weak fun D σ H q => appM_read q
    · cases h
  | .drop e, X, sc, st, k, hfn, hs, h => by
    unfold mS at h
    split at h
    · simp only [Bool.and_eq_true, Bool.not_eq_true'] at h
      exact (ps_expr (sE e k hs h.1).giv (swap_false h.2 _ _ _)).weak fun D σ H q => drop_read q
    · cases h
  | .ret e, X, sc, st, k, hfn, hs, h => by
    unfold mS at h
    split at h
    · exact (ps_ret (sE e k hs h).giv).weak fun D σ H q => ret_read q
    · cases h
  | .retN, X, sc, st, k, hfn, hs, h => by
    unfold mS at h
    split at h
    · refine ps_retN.weak fun D σ H q => ?_
      obtain ⟨F, as, z⟩ := nx_read (fun _ => rfl) q
      exact z .non .non
    · cases h
  | .ife c a b, X, sc, st, k, hfn, hs, h => by
    unfold mS at h
    split at h
    · simp only [Bool.and_eq_true] at h
      obtain ⟨⟨⟨h0, h1⟩, h2⟩, h3⟩ := h
      exact (ps_if (sT c k hs h0 h1) (sB a k hfn hs h2) (sB b k hfn hs h3)).weak fun D σ H q => if_read q
    · cases h
  | .loop g it body, X, sc, st, k, hfn, hs, h => by
    unfold mS at h
    split at h
    · simp only [Bool.and_eq_true] at h
      obtain ⟨⟨h1, h2⟩, h3⟩ := h
      exact (ps_for (pnever k.xe) k.calm (sI it k hs h2) (g_of k.calm k.nd rfl (hl_of hfn hs) h1) (sB body k hfn hs h3) (folded_mI h2 X.env)).weak fun D σ H q => for_read q
    · cases h
  | .wh c body, X, sc, st, k, hfn, hs, h => by
    unfold mS at h
    split at h
    · simp only [Bool.and_eq_true] at h
      obtain ⟨⟨h0, h1⟩, h2⟩ := h
      exact (ps_while (pnever k.xe) (sT c k hs h0 h1) (sB body k hfn hs h2)).weak fun D σ H q => wh_read q
    · cases h
  | .brk, X, sc, st, k, hfn, hs, h => by
    unfold mS at h
    split at h
    · refine ps_break.weak fun D σ H q => ?_
      obtain ⟨F, as, z⟩ := nx_read (fun _ => rfl) q
      exact z
    · cases h
  | .cnt, X, sc, st, k, hfn, hs, h => by
    unfold mS at h
    split at h
    · refine ps_continue.weak fun D σ H q => ?_
      obtain ⟨F, as, z⟩ := nx_read (fun _ => rfl) q
      exact z
    · cases h
  | .pass, X, sc, st, k, hfn, hs, h => by
    unfold mS at h
    split at h
    · refine ps_pass.weak fun D σ H q => ?_
      obtain ⟨F, as, z⟩ := nx_read (fun _ => rfl) q
      exact z
    · cases h
  | .put a i e, X, sc, st, k, hfn, hs, h => by
    unfold mS at h
    split at h
    · simp only [Bool.and_eq_true] at h
      obtain ⟨⟨⟨h1, h2⟩, h3⟩, h4⟩ := h
      rename_i xa xi p1 v p
      refine (ps_asg (sE e k hs h3).giv (pg_sub (sE a k hs h1).giv (sE i k hs h2).giv set_list ?_) ?_ ?_ ?_).weak fun D σ H q => put_read q
      · intro w
        cases xi <;> first | rfl | (cases h4; done)
      · cases v <;> rfl
      · cases v <;> rfl
      · rfl
    · cases h
  | .aug i op e, X, sc, st, k, hfn, hs, h => by
    unfold mS at h
    split at h
    · rename_i tg o v p
      simp only [Bool.and_eq_true, decide_eq_true_eq] at h
      obtain ⟨⟨h1, h2⟩, h3⟩ := h
      have eo := BOp.of_py h2
      subst eo
      unfold nameTgt at h1
      split at h1
      · rename_i y py
        simp only [Bool.and_eq_true, decide_eq_true_eq] at h1
        exact (ps_aug k.nd h1.1 (by rw [hs]; exact loc_of h1.2) (sE e k hs h3).giv (aug_op op) (.inl (hfn y))).weak fun D σ H q => aug_read q
      · cases h1
    · cases h
theorem sB : ∀ (b : List XS) {X : Cx} {sc : Scope} {st : List Stmt}, Kx X T ct cl → (∀ y, X.fn y = true) → X.env.scope = sc → mB X.N T sc b st = true → PSs X st (tDB X.K ct cl b)
  | [], X, sc, st, k, hfn, hs, h => by
    cases st with
    | nil =>
      refine pss_nil.weak fun D σ H ⟨F, as, S, M, o, S', M', rel, ev, q⟩ => ?_
      simp only [denB] at ev
      cases ev
      exact q F H as σ rel Stp.refl
    | cons _ _ => simp [mB] at h
  | s :: ss, X, sc, st, k, hfn, hs, h => by
    cases st with
    | nil => simp [mB] at h
    | cons t ts =>
      simp only [mB, Bool.and_eq_true] at h
      refine (pss_cons (sS s k hfn hs h.1) (sB ss k hfn hs h.2)).weak fun D σ H ⟨F, as, S, M, o, S', M', rel, ev, q⟩ => ?_
      simp only [denB, Option.bind_eq_some_iff] at ev
      obtain ⟨⟨o1, s1⟩, e1, e2⟩ := ev
      refine ⟨F, as, S, M, o1, s1.1, s1.2, rel, e1, fun F1 H1 as1 σ1 rel1 stp1 => ?_⟩
      cases o1 with
      | nx => exact ⟨F1, as1, s1.1, s1.2, o, S', M', rel1, e2, fun F2 H2 as2 σ2 rel2 stp2 => q F2 H2 as2 σ2 rel2 (stp1.trans stp2)⟩
      | bk =>
        cases e2
        exact q F1 H1 as1 σ1 rel1 stp1
      | ct =>
        cases e2
        exact q F1 H1 as1 σ1 rel1 stp1
      | rt d =>
        cases e2
        exact q F1 H1 as1 σ1 rel1 stp1
end
end
end DL

end
section
set_option maxHeartbeats 4000000
/-! DH: a table of defs; the law's end. -/
namespace DL
open PySem PySem.Spec L2

def scB (N : List Str) (n : Nat) (sc : Scope) : Bool :=
  decide (sc.kind = .function) && !sc.isCoroutine && !sc.isGenerator && decide N.Nodup && decide (n ≤ N.length) && ((N.take n).all fun x => locB sc x) && (sc.names.all fun y => decide (y.2 ≠ .free))
theorem scB_ok {N : List Str} {n : Nat} {sc : Scope} (h : scB N n sc = true) : FnScope N (N.take n) sc ∧ (N.take n).length = n := by
  unfold scB at h
  simp only [Bool.and_eq_true, decide_eq_true_eq, Bool.not_eq_true', List.all_eq_true] at h
  obtain ⟨⟨⟨⟨⟨⟨h1, h2⟩, h3⟩, h4⟩, h5⟩, h6⟩, h7⟩ := h
  refine ⟨⟨h1, h2, h3, h4, ?_, fun x hx => ?_, h7⟩, ?_⟩
  · rw [List.length_take, Nat.min_eq_left h5]
  · have q := loc_of (h6 x hx)
    exact q
  · rw [List.length_take, Nat.min_eq_left h5]
/-- the text says what the table says of it -/
def chk (T : Tbl) (g : Fn) (st : Stmt) : Bool := scB g.names g.pars (defScope st) && mB g.names T (defScope st) g.body (defBody st) && (T.globs.lookup g.name).isNone && (match T.fns.find? (fun g' => g'.name == g.name) with
  | some g' => g'.pars == g.pars
  | none => false)
def BindOk (g : Fn) (st : Stmt) : Prop := ∀ (kV doc pm : Value) (an : Option Addr) (cdv ct : Value) (us : List Value), us.length = g.pars →
  bindArgs (PySem.W.fnOf (Str.ofString g.name) (Str.ofString g.name) (defArgs st) (defBody st) (defScope st) .none kV doc pm an cdv ct) ⟨us, []⟩ = pure ((g.names.take g.pars).zip us)
/-- where a def stands behind the top -/
structure DefAt (K : PySem.W.Frag) (mg : Str → Option Value) (g : Fn) (st : Stmt) : Prop where
  ex : ∃ f fd, mg (Str.ofString g.name) = some (.ref f) ∧ Fun K (Str.ofString g.name) (Str.ofString g.name) st f fd
theorem def_at {K : PySem.W.Frag} {h : Heap} {mg : Str → Option Value} (X : K.In h) (G : h.Ns mainGlobals mg) {g : Fn} {st : Stmt} {f : Addr} {oc : Value} {od an : Option Addr} {osl : Array (Option Value)} {kV doc pm cdv ct : Value}
    (a : PySem.W.nsIn K mainGlobals (Str.ofString g.name) = some (some (.ref f)))
    (l : K.lookup f = some ⟨oc, od, .func (PySem.W.fnOf (Str.ofString g.name) (Str.ofString g.name) (defArgs st) (defBody st) (defScope st) .none kV doc pm an cdv ct), osl⟩)
    (c : PySem.W.codeIn K cdv (Str.ofString g.name) = true) (k : PySem.W.keepIn K (.ref f) = true) : DefAt K mg g st := ⟨f, _, PySem.W.mg_of X G a, fun_mk l c k⟩
/-- the table stands in the text -/
structure TblAt (P : Program) (K : PySem.W.Frag) (mg : Str → Option Value) (T : Tbl) : Prop where
  fns : ∀ g, g ∈ T.fns → ∃ st, chk T g st = true ∧ BindOk g st ∧ DefAt K mg g st ∧ T.fns.find? (fun g' => g'.name == g.name) = some g
  blt : ∀ x, x ∈ bltNames → mg x = none
  globs : ∀ x d, T.globs.lookup x = some d → ∃ v u, mg (Str.ofString x) = some u ∧ RelV v u ∧ ∀ F as, Rep K F as v d
theorem glob_call {T : Tbl} {x : String} {d : D} (h : T.globs.lookup x = some d) : ∀ (k : Nat) (M : List MO), callD T k x [] M = some (d, M)
  | 0, M => by unfold callD; rw [h]; rfl
  | k + 1, M => by unfold callD; rw [h]; rfl
theorem lk {K : PySem.W.Frag} {x q : Str} {st : Stmt} {f : Addr} {fd : FuncData} (F : Fun K x q st f fd) : ∃ (oc : Value) (od : Option Addr) (osl : Array (Option Value)), K.lookup f = some ⟨oc, od, .func fd, osl⟩ := by
  obtain ⟨oc, od, kV, doc, pm, an, cdv, ct, osl, _, l, _⟩ := F.ex
  exact ⟨oc, od, osl, l⟩
theorem all_fns {P : Program} {w : World} {K : PySem.W.Frag} {mg : Str → Option Value} {base : Heap} {T : Tbl} (ct : Nat → Addr) (t : TblAt P K mg T) : ∀ (k : Nat) (g : Fn), g ∈ T.fns → ∃ (f : Addr) (fd : FuncData), mg (Str.ofString g.name) = some (.ref f) ∧ PySem.W.keepIn K (.ref f) = true ∧
    Binds K fd (g.names.take g.pars) [] ∧ FnOk P w K mg base CX0 k f fd (g.names.take g.pars) (spD K ct (callD T k) g.name g.pars) ∧ ∃ (oc : Value) (od : Option Addr) (osl : Array (Option Value)), K.lookup f = some ⟨oc, od, .func fd, osl⟩
  | 0, g, hg => by
    obtain ⟨st, hc, hb, ⟨f, fd, hm, F⟩, hf⟩ := t.fns g hg
    unfold chk at hc
    simp only [Bool.and_eq_true] at hc
    obtain ⟨sco, len⟩ := scB_ok hc.1.1.1
    refine ⟨f, fd, hm, F.kp, F.binds fun kV doc pm an cdv ct us hl => hb kV doc pm an cdv ct us (by rw [hl, len]), ⟨fun vs H Q E q => ?_, fun A outer s H args us vs Q E hr he hb' hv q => ?_⟩, lk F⟩
    · obtain ⟨F', as, M, ds, d, M', r, rl, hn, hc', q'⟩ := q
      rw [rl.length, hn, len]
    · obtain ⟨F', as, M, ds, d, M', r, rl, hn, hc', q'⟩ := q
      have nl : T.globs.lookup g.name = none := by
        cases z : T.globs.lookup g.name with
        | none => rfl
        | some d => have z2 := hc.1.2; rw [z] at z2; cases z2
      unfold callD at hc'
      rw [nl] at hc'
      cases hc'
  | k + 1, g, hg => by
    obtain ⟨st, hc, hb, ⟨f, fd, hm, F⟩, hf⟩ := t.fns g hg
    unfold chk at hc
    simp only [Bool.and_eq_true] at hc
    obtain ⟨⟨⟨hc1, hc2⟩, hc3⟩, hc4⟩ := hc
    obtain ⟨sco, len⟩ := scB_ok hc1
    refine ⟨f, fd, hm, F.kp, F.binds fun kV doc pm an cdv ct us hl => hb kV doc pm an cdv ct us (by rw [hl, len]), F.ok sco (fun vs H Q E q => ?_) fun cdv A outer s H vs Q E hr q => ?_, lk F⟩
    · obtain ⟨F', as, M, ds, d, M', r, rl, hn, hc', q'⟩ := q
      rw [rl.length, hn, len]
    · obtain ⟨F0, as, M, ds, d, M', rel, rl, hn, hcall, q⟩ := q
      refine ⟨tDB K ct (callD T k) g.body, sB (T := T) (ct := ct) (cl := callD T k) g.body (X := (cxOf CX0 P w K mg base g.names (Str.ofString g.name) (defScope st) f cdv A outer s H E).nox) (sc := defScope st) ?_ (fun _ => rfl) rfl hc2, ?_⟩
      · refine ⟨rfl, sco.nd, ?_, rfl, t.blt, fun g' hg' => ?_, fun x d hx => ⟨t.globs x d hx, fun M => glob_call hx k M⟩⟩
        · have := hr.un
          show (A.deeper _).units + 65 < cLine
          omega
        · obtain ⟨f', fd', h1, h2, h3, h4, _⟩ := all_fns ct t k g' hg'
          exact ⟨f', fd', _, k, h1, h2, h3, hr, h4⟩
      · have nl : T.globs.lookup g.name = none := by
          cases z : T.globs.lookup g.name with
          | none => rfl
          | some d => rw [z] at hc3; cases hc3
        unfold callD at hcall
        rw [nl, hf] at hcall
        dsimp only at hcall
        rw [if_pos hn] at hcall
        obtain ⟨⟨o, s2⟩, eb, e2⟩ := Option.bind_eq_some_iff.mp hcall
        obtain ⟨d', ed, e3⟩ := Option.map_eq_some_iff.mp e2
        cases e3
        have vl : vs.length = g.pars := by rw [rl.length, hn]
        have nl2 : g.pars ≤ g.names.length := by
          have := len
          rw [List.length_take] at this
          omega
        refine ⟨F0, as, g.start ds, M, o, s2.1, s2.2, ⟨rel.sub, rel.nd, rel.len, rel.mo, ?_, fun i x hx => ?_, fun i x hx => ?_, fun i j x y a hx => ?_⟩, eb, fun F' H' as' σ' rel' stp' => ?_⟩
        · unfold L2.start Fn.start
          rw [List.length_append, List.length_append, List.length_map, List.length_map, List.length_replicate, List.length_replicate, rl.length]
        · unfold Fn.start at hx
          unfold L2.start
          by_cases hi : i < ds.length
          · rw [List.getElem?_append_left (by rw [List.length_map]; exact hi), List.getElem?_map] at hx
            obtain ⟨y, hy, e⟩ := Option.map_eq_some_iff.mp hx
            cases e
            obtain ⟨v, h1, h2⟩ := rl.get hy
            exact ⟨v, by rw [List.getElem?_append_left (by rw [List.length_map, rl.length]; exact hi), List.getElem?_map, h1]; rfl, h2⟩
          · rw [List.getElem?_append_right (by rw [List.length_map]; omega), List.getElem?_replicate] at hx
            split at hx <;> cases hx
        · unfold Fn.start at hx
          by_cases hi : i < ds.length
          · rw [List.getElem?_append_left (by rw [List.length_map]; exact hi), List.getElem?_map] at hx
            obtain ⟨y, hy, e⟩ := Option.map_eq_some_iff.mp hx
            cases e
          · rw [List.getElem?_append_right (by rw [List.length_map]; omega), List.getElem?_replicate] at hx
            split at hx <;> cases hx
        · unfold Fn.start at hx
          by_cases hi : i < ds.length
          · rw [List.getElem?_append_left (by rw [List.length_map]; exact hi), List.getElem?_map] at hx
            obtain ⟨y, hy, e⟩ := Option.map_eq_some_iff.mp hx
            cases e
          · rw [List.getElem?_append_right (by rw [List.length_map]; omega), List.getElem?_replicate] at hx
            split at hx <;> cases hx
        · -- the end
          have nown : ∀ a, ¬ Own (L2.start g.names vs) (g.start ds) a := fun a ⟨i, x, hx, _⟩ => by
            unfold Fn.start at hx
            by_cases hi : i < ds.length
            · rw [List.getElem?_append_left (by rw [List.length_map]; exact hi), List.getElem?_map] at hx
              obtain ⟨y, hy, e⟩ := Option.map_eq_some_iff.mp hx
              cases e
            · rw [List.getElem?_append_right (by rw [List.length_map]; omega), List.getElem?_replicate] at hx
              split at hx <;> cases hx
          have st0 : Stp F0 H as [] [] F' H' as' [] [] := ⟨stp'.sub, stp'.pre, fun a o h n _ => stp'.keep a o h n (nown a), fun a o h n _ => stp'.nofz a o h n (nown a), stp'.new, fun a h => absurd h no_own, stp'.kept⟩
          cases o with
          | nx =>
            cases ed
            exact q F' H' as' .non rel'.bare st0 .non
          | bk => cases ed
          | ct => cases ed
          | rt d =>
            cases ed
            exact fun v rv => q F' H' as' v rel'.bare st0 rv
/-- the law's promise, from its meaning at every script -/
def spLaw (K : PySem.W.Frag) (T : Tbl) (k : Nat) : Sp := spD K (fun _ => 0) (callD T k) "law" 1
theorem law_fn {P : Program} {w : World} {K : PySem.W.Frag} {mg : Str → Option Value} {T : Tbl} (t : TblAt P K mg T) (k : Nat) {g : Fn} (hg : g ∈ T.fns) (hn : g.name = "law") (hp : g.pars = 1) (ht : g.names.take 1 = [("script" : Str)]) {f : Addr} {fd : FuncData} {st : Stmt} {x q : Str}
    (hf : mg "law" = some (.ref f)) (F : Fun K x q st f fd) (base : Heap) : FnOk P w K mg base CX0 k f fd ([("script" : Str)]) (spLaw K T k) := by
  obtain ⟨f', fd', h1, h2, h3, h4, oc, od, osl, h5⟩ := all_fns (P := P) (w := w) (base := base) (fun _ => 0) t k g hg
  rw [hn] at h1
  have e1 : f' = f := by
    have z : some (Value.ref f') = some (Value.ref f) := h1.symm.trans hf
    cases z
    rfl
  subst e1
  obtain ⟨oc2, od2, osl2, h6⟩ := lk F
  rw [h5] at h6
  cases h6
  rw [hp, ht] at h4
  rw [hn] at h4
  exact h4
theorem law_start {K : PySem.W.Frag} {T : Tbl} {k : Nat} (law : ∀ ns : List Int, ns.length ≤ 63 → ∃ M, callD T k "law" [.fls (ns.map D.int)] [] = some (.bl true, M)) {H : Hp} {a : Addr} {ns : List Int} (hl : ns.length ≤ 63) (hS : SqL K H a (ns.map V.int)) :
    spLaw K T k [.ref a] H (fun v _ => v = .bl true) fun _ _ _ => False := by
  obtain ⟨M, hM⟩ := law ns hl
  refine ⟨H, [], [], [.fls (ns.map D.int)], .bl true, M, ⟨Sub.refl _, List.nodup_nil, rfl, fun n a o h => by simp at h, rfl, fun i d h => by simp at h, fun i d h => by simp at h, fun i j x y a h => by simp at h⟩, .cons (.fls hS (RepL.of_ints ns)) .nil, rfl, hM, fun F' H' as' v rel stp rep => ?_⟩
  cases rep
  rfl
end DL

end
section
/-! DW: the calculus over the meaning. -/
namespace DL
open PySem PySem.Spec L2

section
variable (cl : CL)
def wR (e : XE) (s : DS) (Q : R → DS → Prop) : Prop := ∃ r s', den cl e s = some (r, s') ∧ Q r s'
def wL (es : List XE) (s : DS) (Q : List D → DS → Prop) : Prop := ∃ r s', denL cl es s = some (r, s') ∧ Q r s'
def wOp (e : Option XE) (s : DS) (Q : Option Int → DS → Prop) : Prop := ∃ r s', denO cl e s = some (r, s') ∧ Q r s'
def wIt (e : XI) (s : DS) (Q : List D → DS → Prop) : Prop := ∃ r s', denI cl e s = some (r, s') ∧ Q r s'
def wS (e : XS) (s : DS) (Q : Out → DS → Prop) : Prop := ∃ r s', denS cl e s = some (r, s') ∧ Q r s'
def wB (e : List XS) (s : DS) (Q : Out → DS → Prop) : Prop := ∃ r s', denB cl e s = some (r, s') ∧ Q r s'
def wC (f : String) (ds : List D) (M : List MO) (Q : D → List MO → Prop) : Prop := ∃ d M', cl f ds M = some (d, M') ∧ Q d M'
end
def wO {α : Type} (o : Option α) (Q : α → Prop) : Prop := ∃ z, o = some z ∧ Q z
def wIf (k : Bool) (A B : Prop) : Prop := if k = true then A else B

section
variable {cl : CL} {s : DS} {S : List SV} {M : List MO}
theorem wR.mono {e : XE} {Q Q' : R → DS → Prop} (h : wR cl e s Q) (k : ∀ r s', Q r s' → Q' r s') : wR cl e s Q' := let ⟨r, s', a, b⟩ := h; ⟨r, s', a, k r s' b⟩
theorem wC.mono {f : String} {ds : List D} {Q Q' : D → List MO → Prop} (h : wC cl f ds M Q) (k : ∀ d M', Q d M' → Q' d M') : wC cl f ds M Q' := let ⟨r, s', a, b⟩ := h; ⟨r, s', a, k r s' b⟩
theorem wB.mono {e : List XS} {Q Q' : Out → DS → Prop} (h : wB cl e s Q) (k : ∀ r s', Q r s' → Q' r s') : wB cl e s Q' := let ⟨r, s', a, b⟩ := h; ⟨r, s', a, k r s' b⟩
theorem wS.mono {e : XS} {Q Q' : Out → DS → Prop} (h : wS cl e s Q) (k : ∀ r s', Q r s' → Q' r s') : wS cl e s Q' := let ⟨r, s', a, b⟩ := h; ⟨r, s', a, k r s' b⟩
theorem wO.mono {α : Type} {o : Option α} {Q Q' : α → Prop} (h : wO o Q) (k : ∀ r, Q r → Q' r) : wO o Q' := let ⟨r, a, b⟩ := h; ⟨r, a, k r b⟩
theorem wo_some {α : Type} {z : α} {Q : α → Prop} (q : Q z) : wO (some z) Q := ⟨z, rfl, q⟩
theorem wo_of {α : Type} {o : Option α} {z : α} {Q : α → Prop} (h : o = some z) (q : Q z) : wO o Q := ⟨z, h, q⟩
theorem wif_t {A B : Prop} (h : A) : wIf true A B := h
theorem wif_f {A B : Prop} (h : B) : wIf false A B := h
theorem wif_p {p : Prop} [Decidable p] {A B : Prop} (hp : p) (h : A) : wIf (decide p) A B := by rw [decide_eq_true hp]; exact h
theorem wif_n {p : Prop} [Decidable p] {A B : Prop} (hp : ¬ p) (h : B) : wIf (decide p) A B := by rw [decide_eq_false hp]; exact h
theorem wif_d {p : Prop} [Decidable p] {A B : Prop} (h1 : p → A) (h2 : ¬ p → B) : wIf (decide p) A B := by
  by_cases h : p
  · exact wif_p h (h1 h)
  · exact wif_n h (h2 h)
theorem wif_np {p : Prop} [Decidable p] {A B : Prop} (hp : ¬ p) (h : A) : wIf (!decide p) A B := by rw [decide_eq_false hp]; exact h
theorem wif_nn {p : Prop} [Decidable p] {A B : Prop} (hp : p) (h : B) : wIf (!decide p) A B := by rw [decide_eq_true hp]; exact h
theorem wif_nd {p : Prop} [Decidable p] {A B : Prop} (h1 : ¬ p → A) (h2 : p → B) : wIf (!decide p) A B := by
  by_cases h : p
  · exact wif_nn h (h2 h)
  · exact wif_np h (h1 h)
theorem wif_b {k : Bool} {A B : Prop} (h1 : k = true → A) (h2 : k = false → B) : wIf k A B := by
  cases k with
  | true => exact h1 rfl
  | false => exact h2 rfl
theorem wif_not {k : Bool} {A B : Prop} (h : wIf k B A) : wIf (!k) A B := by
  cases k <;> exact h
theorem wif_is {k k' : Bool} {A B : Prop} (e : k = k') (h : wIf k' A B) : wIf k A B := by rw [e]; exact h

/-! ### expressions -/
variable {Q : R → DS → Prop}
theorem wr_var {i : Nat} {d : D} (h : S[i]? = some (.val d)) (q : Q (.v d) (S, M)) : wR cl (.var i) (S, M) Q := ⟨.v d, (S, M), by simp only [den, readV, h, Option.map_some], q⟩
theorem wr_own {i : Nat} {ds : List D} (h : S[i]? = some (.own ds)) (q : Q (.v (.lst ds)) (S.set i (.val (.lst ds)), M)) : wR cl (.var i) (S, M) Q := ⟨.v (.lst ds), (S.set i (.val (.lst ds)), M), by simp only [den, readV, h, Option.map_some], q⟩
theorem wr_glob {x : String} {d : D} (h : cl x [] s.2 = some (d, s.2)) (q : Q (.v d) s) : wR cl (.glob x) s Q := ⟨.v d, s, by simp only [den, h, Option.map_some], q⟩
theorem wr_int {i : Int} (q : Q (.v (.int i)) s) : wR cl (.int i) s Q := ⟨_, _, rfl, q⟩
theorem wr_str {x : Str} (q : Q (.v (.str x)) s) : wR cl (.str x) s Q := ⟨_, _, rfl, q⟩
theorem wr_bl {b : Bool} (q : Q (.v (.bl b)) s) : wR cl (.bl b) s Q := ⟨_, _, rfl, q⟩
theorem wr_non (q : Q (.v .non) s) : wR cl .non s Q := ⟨_, _, rfl, q⟩
theorem wr_bin {op : BOp} {a b : XE} (h : wR cl a s fun x s1 => wR cl b s1 fun y s2 => wO (binD op x.d y.d) fun z => Q z s2) : wR cl (.bin op a b) s Q := by
  obtain ⟨x, s1, ea, y, s2, eb, z, ez, q⟩ := h
  exact ⟨z, s2, by simp only [den, ea, eb, ez, Option.bind_some, Option.map_some], q⟩
theorem wr_neg {a : XE} (h : wR cl a s fun x s1 => ∃ i, x.d = .int i ∧ Q (.v (.int (-i))) s1) : wR cl (.neg a) s Q := by
  obtain ⟨x, s1, ea, i, ei, q⟩ := h
  exact ⟨_, s1, by simp only [den, ea, Option.bind_some, ei], q⟩
theorem wr_cmp {op : COp} {a b : XE} (h : wR cl a s fun x s1 => wR cl b s1 fun y s2 => wO (cmpD op x.d y.d) fun k => Q (.v (.bl k)) s2) : wR cl (.cmp op a b) s Q := by
  obtain ⟨x, s1, ea, y, s2, eb, z, ez, q⟩ := h
  exact ⟨_, s2, by simp only [den, ea, eb, ez, Option.bind_some, Option.map_some], q⟩
theorem wr_chain {op op' : COp} {a b c : XE} (h : wR cl a s fun x s1 => wR cl b s1 fun y s2 => wO (cmpD op x.d y.d) fun k => wIf k (wR cl c s2 fun z s3 => wO (cmpD op' y.d z.d) fun k' => Q (.v (.bl k')) s3) (Q (.v (.bl false)) s2)) : wR cl (.chain op op' a b c) s Q := by
  obtain ⟨x, s1, ea, y, s2, eb, k, ek, q⟩ := h
  cases k with
  | false => exact ⟨_, s2, by simp only [den, ea, eb, ek, Option.bind_some], q⟩
  | true =>
    obtain ⟨z, s3, ec, k', ek', q⟩ := q
    exact ⟨_, s3, by simp only [den, ea, eb, ek, ec, ek', Option.bind_some, Option.map_some], q⟩
theorem wr_no {a : XE} (h : wR cl a s fun x s1 => wO (truD s1.2 x.d) fun k => Q (.v (.bl (!k))) s1) : wR cl (.no a) s Q := by
  obtain ⟨x, s1, ea, k, ek, q⟩ := h
  exact ⟨_, s1, by simp only [den, ea, ek, Option.bind_some, Option.map_some], q⟩
theorem wr_and {a b : XE} (h : wR cl a s fun x s1 => wO (truD s1.2 x.d) fun k => wIf k (wR cl b s1 fun y s2 => Q (.v y.d) s2) (Q (.v x.d) s1)) : wR cl (.and a b) s Q := by
  obtain ⟨x, s1, ea, k, ek, q⟩ := h
  cases k with
  | false => exact ⟨_, s1, by simp only [den, ea, ek, Option.bind_some], q⟩
  | true =>
    obtain ⟨y, s2, eb, q⟩ := q
    exact ⟨_, s2, by simp only [den, ea, ek, eb, Option.bind_some, Option.map_some], q⟩
theorem wr_or {a b : XE} (h : wR cl a s fun x s1 => wO (truD s1.2 x.d) fun k => wIf k (Q (.v x.d) s1) (wR cl b s1 fun y s2 => Q (.v y.d) s2)) : wR cl (.or a b) s Q := by
  obtain ⟨x, s1, ea, k, ek, q⟩ := h
  cases k with
  | true => exact ⟨_, s1, by simp only [den, ea, ek, Option.bind_some], q⟩
  | false =>
    obtain ⟨y, s2, eb, q⟩ := q
    exact ⟨_, s2, by simp only [den, ea, ek, eb, Option.bind_some, Option.map_some], q⟩
theorem wr_ite {c a b : XE} (h : wR cl c s fun x s1 => wO (truD s1.2 x.d) fun k => wIf k (wR cl a s1 fun y s2 => Q (.v y.d) s2) (wR cl b s1 fun y s2 => Q (.v y.d) s2)) : wR cl (.ite c a b) s Q := by
  obtain ⟨x, s1, ea, k, ek, q⟩ := h
  cases k with
  | true =>
    obtain ⟨y, s2, eb, q⟩ := q
    exact ⟨_, s2, by simp only [den, ea, ek, eb, Option.bind_some, Option.map_some], q⟩
  | false =>
    obtain ⟨y, s2, eb, q⟩ := q
    exact ⟨_, s2, by simp only [den, ea, ek, eb, Option.bind_some, Option.map_some], q⟩
theorem wr_tup {es : List XE} (h : wL cl es s fun ds s1 => ds.length ≤ sizeLine ∧ Q (.v (.tup ds)) s1) : wR cl (.tup es) s Q := by
  obtain ⟨ds, s1, ea, hl, q⟩ := h
  exact ⟨_, s1, by simp only [den, ea, Option.bind_some, if_pos hl], q⟩
theorem wr_lst {es : List XE} (h : wL cl es s fun ds s1 => ds.length ≤ sizeLine ∧ Q (.fl ds) s1) : wR cl (.lst es) s Q := by
  obtain ⟨ds, s1, ea, hl, q⟩ := h
  exact ⟨_, s1, by simp only [den, ea, Option.bind_some, if_pos hl], q⟩
theorem wr_idx {a b : XE} (h : wR cl a s fun x s1 => wR cl b s1 fun y s2 => wO (idxD s2.2 x.d y.d) fun z => Q (.v z) s2) : wR cl (.idx a b) s Q := by
  obtain ⟨x, s1, ea, y, s2, eb, z, ez, q⟩ := h
  exact ⟨_, s2, by simp only [den, ea, eb, ez, Option.bind_some, Option.map_some], q⟩
theorem wr_idxO {i : Nat} {b : XE} {xs : List D} (h0 : S[i]? = some (.own xs)) (h : wR cl b (S, M) fun y s1 => wO (readO i s1.1) fun ys => wO (idxD [] (.lst ys) y.d) fun z => Q (.v z) s1) : wR cl (.idxO i b) (S, M) Q := by
  obtain ⟨y, s1, eb, ys, ey, z, ez, q⟩ := h
  have e0 : readO i S = some xs := by simp only [readO, h0]
  exact ⟨_, s1, by simp only [den, e0, eb, ey, ez, Option.bind_some, Option.map_some], q⟩
theorem wr_slc {a : XE} {lo hi : Option XE} (h : wR cl a s fun x s1 => wOp cl lo s1 fun l s2 => wOp cl hi s2 fun u s3 => wO (slcD x.d l u) fun z => Q z s3) : wR cl (.slc a lo hi) s Q := by
  obtain ⟨x, s1, ea, l, s2, el, u, s3, eu, z, ez, q⟩ := h
  exact ⟨_, s3, by simp only [den, ea, el, eu, ez, Option.bind_some, Option.map_some], q⟩
theorem wr_rev {a : XE} (h : wR cl a s fun x s1 => wO (revD x.d) fun z => Q z s1) : wR cl (.rev a) s Q := by
  obtain ⟨x, s1, ea, z, ez, q⟩ := h
  exact ⟨_, s1, by simp only [den, ea, ez, Option.bind_some, Option.map_some], q⟩
theorem wr_call {f : String} {es : List XE} (h : wL cl es s fun ds s1 => wC cl f ds s1.2 fun d M' => Q (.v d) (s1.1, M')) : wR cl (.call f es) s Q := by
  obtain ⟨ds, s1, ea, d, M', ec, q⟩ := h
  exact ⟨_, _, by simp only [den, ea, ec, Option.bind_some, Option.map_some], q⟩
theorem wr_bi {p : Bi} {e : XE} (h : wR cl e s fun x s1 => wO (biD s1.2 p x.d) fun z => Q z s1) : wR cl (.bi p e) s Q := by
  obtain ⟨x, s1, ea, z, ez, q⟩ := h
  exact ⟨_, s1, by simp only [den, ea, ez, Option.bind_some, Option.map_some], q⟩
theorem wr_lenO {i : Nat} {xs : List D} (h : S[i]? = some (.own xs)) (q : Q (.v (.int xs.length)) (S, M)) : wR cl (.lenO i) (S, M) Q := by
  have e0 : readO i S = some xs := by simp only [readO, h]
  exact ⟨_, _, by simp only [den, e0, Option.map_some], q⟩
theorem wr_lrng {a : XE} (h : wR cl a s fun x s1 => ∃ n : Int, x.d = .int n ∧ (-(2 ^ 62) ≤ n ∧ n ≤ 2 ^ 24) ∧ Q (.fl (rngL 0 n.toNat)) s1) : wR cl (.lrng a) s Q := by
  obtain ⟨x, s1, ea, n, en, hn, q⟩ := h
  exact ⟨_, s1, by simp only [den, ea, Option.bind_some, en, if_pos hn], q⟩
theorem wr_ndx {a b : XE} (h : wR cl a s fun x s1 => wR cl b s1 fun y s2 => wO (ndxD x.d y.d) fun z => Q (.v z) s2) : wR cl (.ndx a b) s Q := by
  obtain ⟨x, s1, ea, y, s2, eb, z, ez, q⟩ := h
  exact ⟨_, s2, by simp only [den, ea, eb, ez, Option.bind_some, Option.map_some], q⟩
theorem wr_popO {i : Nat} {e : XE} {xs0 : List D} (h0 : S[i]? = some (.own xs0)) (h : wR cl e (S, M) fun x s1 => ∃ xs k j d, readO i s1.1 = some xs ∧ x.d = .int k ∧ smallI k = true ∧ seqIndex? k xs.length = some j ∧ xs[j]? = some d ∧ Q (.v d) (s1.1.set i (.own (xs.eraseIdx j)), s1.2)) : wR cl (.popO i e) (S, M) Q := by
  obtain ⟨x, s1, ea, xs, k, j, d, e1, e2, e3, e4, e5, q⟩ := h
  have e0 : readO i S = some xs0 := by simp only [readO, h0]
  exact ⟨_, _, by simp only [den, e0, ea, Option.bind_some, e1, e2, if_pos e3, e4, e5, Option.map_some], q⟩
/-- a comprehension, by an invariant over the turn, the items made so far, the state -/
theorem wr_comp {g : XG} {it : XI} {t : Option XE} {elt : XE} {own : List (Str × Nat)} (h : wIt cl it s fun xs s1 => ∃ I : Nat → List D → DS → Prop, I 0 [] (wipeD s1.1 (own.map (·.2)), s1.2) ∧
    (∀ i x acc s2, xs[i]? = some x → I i acc s2 → wO (setG g x s2.1) fun S3 => wO (denT cl t (S3, s2.2)) fun (k, s4) => wIf k (wR cl elt s4 fun r s5 => acc.length < sizeLine ∧ I (i + 1) (acc ++ [r.d]) (wipeD s5.1 (own.map (·.2)), s5.2)) (I (i + 1) acc (wipeD s4.1 (own.map (·.2)), s4.2))) ∧
    ∀ acc s2, I xs.length acc s2 → Q (.fl acc) (restD s1.1 s2.1 (own.map (·.2)), s2.2)) : wR cl (.comp g it t elt own) s Q := by
  obtain ⟨xs, s1, ei, I, h0, hs, hd⟩ := h
  generalize hvs : own.map (·.2) = vs at *
  have key : ∀ (n i : Nat) (acc : List D) (s2 : DS), n + i = xs.length → I i acc s2 → ∃ ds s3, compD (setG g) (denT cl t) (fun s => (den cl elt s).map fun (z, s2) => (z.d, s2)) vs (xs.drop i) s2 acc = some (ds, s3) ∧ I xs.length ds s3 := by
    intro n
    induction n with
    | zero =>
      intro i acc s2 e hI
      have e' : i = xs.length := by omega
      subst e'
      exact ⟨acc, s2, by rw [List.drop_length]; rfl, hI⟩
    | succ n ih =>
      intro i acc s2 e hI
      have hlt : i < xs.length := by omega
      obtain ⟨S3, e1, ⟨k, s4⟩, e2, hk⟩ := hs i _ acc s2 (List.getElem?_eq_getElem hlt) hI
      rw [List.drop_eq_getElem_cons hlt]
      cases k with
      | false =>
        obtain ⟨ds, s3, e3, h3⟩ := ih (i + 1) acc _ (by omega) hk
        exact ⟨ds, s3, by simp only [compD, e1, e2, Option.bind_some]; exact e3, h3⟩
      | true =>
        obtain ⟨r, s5, e4, hl, hI'⟩ := hk
        obtain ⟨ds, s3, e3, h3⟩ := ih (i + 1) _ _ (by omega) hI'
        exact ⟨ds, s3, by simp only [compD, e1, e2, e4, Option.bind_some, Option.map_some, if_pos hl]; exact e3, h3⟩
  obtain ⟨ds, s3, e3, h3⟩ := key xs.length 0 [] _ (by omega) h0
  rw [List.drop_zero] at e3
  exact ⟨_, _, by simp only [den, hvs, ei, e3, Option.bind_some, Option.map_some], hd ds s3 h3⟩

variable {Ql : List D → DS → Prop}
theorem wl_nil (q : Ql [] s) : wL cl [] s Ql := ⟨[], s, rfl, q⟩
theorem wl_cons {e : XE} {es : List XE} (h : wR cl e s fun x s1 => wL cl es s1 fun xs s2 => Ql (x.d :: xs) s2) : wL cl (e :: es) s Ql := by
  obtain ⟨x, s1, ea, xs, s2, eb, q⟩ := h
  exact ⟨_, s2, by simp only [denL, ea, eb, Option.bind_some, Option.map_some], q⟩
theorem wop_n {Qo : Option Int → DS → Prop} (q : Qo none s) : wOp cl none s Qo := ⟨_, _, rfl, q⟩
theorem wop_s {e : XE} {Qo : Option Int → DS → Prop} (h : wR cl e s fun x s1 => ∃ i, x.d = .int i ∧ Qo (some i) s1) : wOp cl (some e) s Qo := by
  obtain ⟨x, s1, ea, i, ei, q⟩ := h
  exact ⟨_, s1, by simp only [denO, ea, Option.bind_some, ei], q⟩
theorem wit_seq {e : XE} (h : wR cl e s fun x s1 => wO x.d.seq fun xs => Ql xs s1) : wIt cl (.seq e) s Ql := by
  obtain ⟨x, s1, ea, xs, ex, q⟩ := h
  exact ⟨xs, s1, by simp only [denI, ea, Option.bind_some, ex, Option.map_some], q⟩
theorem wit_rng1 {e : XE} (h : wR cl e s fun x s1 => ∃ n, x.d = .int n ∧ smallI n = true ∧ Ql (rngL 0 n.toNat) s1) : wIt cl (.rng1 e) s Ql := by
  obtain ⟨x, s1, ea, n, en, hn, q⟩ := h
  exact ⟨_, s1, by simp only [denI, ea, Option.bind_some, en, if_pos hn], q⟩
theorem wit_rng2 {a b : XE} (h : wR cl a s fun x s1 => wR cl b s1 fun y s2 => ∃ i j, x.d = .int i ∧ y.d = .int j ∧ smallI i = true ∧ smallI j = true ∧ Ql (rngL i (j - i).toNat) s2) : wIt cl (.rng2 a b) s Ql := by
  obtain ⟨x, s1, ea, y, s2, eb, i, j, ei, ej, h1, h2, q⟩ := h
  exact ⟨_, s2, by simp only [denI, ea, eb, Option.bind_some, ei, ej, h1, h2, Bool.and_self, if_true], q⟩
theorem wt_none {Qt : Bool × DS → Prop} (q : Qt (true, s)) : wO (denT cl none s) Qt := ⟨_, rfl, q⟩
theorem wt_some {e : XE} {Qt : Bool × DS → Prop} (h : wR cl e s fun x s1 => wO (truD s1.2 x.d) fun k => Qt (k, s1)) : wO (denT cl (some e) s) Qt := by
  obtain ⟨x, s1, ea, k, ek, q⟩ := h
  exact ⟨_, by simp only [denT, ea, Option.bind_some, ek, Option.map_some], q⟩

/-! ### statements -/
variable {Qs : Out → DS → Prop}
theorem ws_asg {i : Nat} {e : XE} (h : wR cl e s fun x s1 => Qs .nx (s1.1.set i (.val x.d), s1.2)) : wS cl (.asg (.nm i) e) s Qs := by
  obtain ⟨x, s1, ea, q⟩ := h
  exact ⟨_, _, by simp only [denS, ea, Option.bind_some, setG, Option.map_some], q⟩
theorem ws_tup {is : List Nat} {e : XE} (h : wR cl e s fun x s1 => wO (setG (.tup is) x.d s1.1) fun S' => Qs .nx (S', s1.2)) : wS cl (.asg (.tup is) e) s Qs := by
  obtain ⟨x, s1, ea, S', eg, q⟩ := h
  exact ⟨_, _, by simp only [denS, ea, Option.bind_some, eg, Option.map_some], q⟩
theorem ws_setO {i : Nat} {e : XE} (h : wR cl e s fun x s1 => ∃ ds, x = .fl ds ∧ i < s1.1.length ∧ Qs .nx (s1.1.set i (.own ds), s1.2)) : wS cl (.setO i e) s Qs := by
  obtain ⟨x, s1, ea, ds, rfl, hi, q⟩ := h
  exact ⟨_, _, by simp only [denS, ea, Option.bind_some, if_pos hi], q⟩
theorem ws_setM {i : Nat} {e : XE} (h : wR cl e s fun x s1 => ∃ ds, x = .fl ds ∧ Qs .nx (s1.1.set i (.val (.adr s1.2.length)), s1.2 ++ [.lst ds])) : wS cl (.setM i e) s Qs := by
  obtain ⟨x, s1, ea, ds, rfl, q⟩ := h
  exact ⟨_, _, by simp only [denS, ea, Option.bind_some], q⟩
theorem ws_app {i : Nat} {e : XE} {ds0 : List D} (h0 : S[i]? = some (.own ds0)) (h : wR cl e (S, M) fun x s1 => ∃ ds, readO i s1.1 = some ds ∧ ds.length < sizeLine ∧ Qs .nx (s1.1.set i (.own (ds ++ [x.d])), s1.2)) : wS cl (.app i e) (S, M) Qs := by
  obtain ⟨x, s1, ea, ds, ed, hl, q⟩ := h
  have e0 : readO i S = some ds0 := by simp only [readO, h0]
  exact ⟨_, _, by simp only [denS, e0, ea, Option.bind_some, ed, if_pos hl], q⟩
theorem ws_appM {a e : XE} (h : wR cl a s fun o s0 => wO (listM s0.2 o.d) fun _ => wR cl e s0 fun x s1 => wO (listM s1.2 o.d) fun (n, ds) => ds.length < sizeLine ∧ Qs .nx (s1.1, s1.2.set n (.lst (ds ++ [x.d])))) : wS cl (.appM a e) s Qs := by
  obtain ⟨o, s0, eo, z, ez, x, s1, ea, ⟨n, ds⟩, ed, hl, q⟩ := h
  exact ⟨_, _, by simp only [denS, eo, ez, ea, Option.bind_some, ed, if_pos hl], q⟩
theorem ws_drop {e : XE} (h : wR cl e s fun _ s1 => Qs .nx s1) : wS cl (.drop e) s Qs := by
  obtain ⟨x, s1, ea, q⟩ := h
  exact ⟨_, _, by simp only [denS, ea, Option.map_some], q⟩
theorem ws_ret {e : XE} (h : wR cl e s fun x s1 => Qs (.rt x.d) s1) : wS cl (.ret e) s Qs := by
  obtain ⟨x, s1, ea, q⟩ := h
  exact ⟨_, _, by simp only [denS, ea, Option.map_some], q⟩
theorem ws_retN (q : Qs (.rt .non) s) : wS cl .retN s Qs := ⟨_, _, rfl, q⟩
theorem ws_if {c : XE} {a b : List XS} (h : wR cl c s fun x s1 => wO (truD s1.2 x.d) fun k => wIf k (wB cl a s1 Qs) (wB cl b s1 Qs)) : wS cl (.ife c a b) s Qs := by
  obtain ⟨x, s1, ea, k, ek, q⟩ := h
  cases k with
  | true =>
    obtain ⟨o, s2, eb, q⟩ := q
    exact ⟨o, s2, by simp only [denS, ea, ek, Option.bind_some, eb], q⟩
  | false =>
    obtain ⟨o, s2, eb, q⟩ := q
    exact ⟨o, s2, by simp only [denS, ea, ek, Option.bind_some, eb], q⟩
/-- what a turn's end asks -/
def turnQ (N : DS → Prop) (Qs : Out → DS → Prop) : Out → DS → Prop
  | .nx, s => N s
  | .ct, s => N s
  | .bk, s => Qs .nx s
  | .rt d, s => Qs (.rt d) s
theorem ws_for {g : XG} {it : XI} {body : List XS} (h : wIt cl it s fun xs s1 => ∃ I : Nat → DS → Prop, I 0 s1 ∧ (∀ i x s2, xs[i]? = some x → I i s2 → wO (setG g x s2.1) fun S3 => wB cl body (S3, s2.2) (turnQ (I (i + 1)) Qs)) ∧ ∀ s2, I xs.length s2 → Qs .nx s2) : wS cl (.loop g it body) s Qs := by
  obtain ⟨xs, s1, ei, I, h0, hs, hd⟩ := h
  have key : ∀ (n i : Nat) (s2 : DS), n + i = xs.length → I i s2 → ∃ o s3, forD (setG g) (denB cl body) (xs.drop i) s2 = some (o, s3) ∧ Qs o s3 := by
    intro n
    induction n with
    | zero =>
      intro i s2 e hI
      have e' : i = xs.length := by omega
      subst e'
      exact ⟨.nx, s2, by rw [List.drop_length]; rfl, hd s2 hI⟩
    | succ n ih =>
      intro i s2 e hI
      have hlt : i < xs.length := by omega
      obtain ⟨S3, e1, o, s4, e2, hq⟩ := hs i _ s2 (List.getElem?_eq_getElem hlt) hI
      rw [List.drop_eq_getElem_cons hlt]
      cases o with
      | nx =>
        obtain ⟨o, s3, e3, h3⟩ := ih (i + 1) s4 (by omega) hq
        exact ⟨o, s3, by simp only [forD, e1, e2, Option.bind_some]; exact e3, h3⟩
      | ct =>
        obtain ⟨o, s3, e3, h3⟩ := ih (i + 1) s4 (by omega) hq
        exact ⟨o, s3, by simp only [forD, e1, e2, Option.bind_some]; exact e3, h3⟩
      | bk => exact ⟨.nx, s4, by simp only [forD, e1, e2, Option.bind_some], hq⟩
      | rt d => exact ⟨.rt d, s4, by simp only [forD, e1, e2, Option.bind_some], hq⟩
  obtain ⟨o, s3, e3, h3⟩ := key xs.length 0 s1 (by omega) h0
  rw [List.drop_zero] at e3
  exact ⟨o, s3, by simp only [denS, ei, e3, Option.bind_some], h3⟩
/-- a while, by an invariant with a measure -/
theorem ws_wh {c : XE} {body : List XS} (I : Nat → DS → Prop) {m0 : Nat} (hm : m0 < big) (h0 : I m0 s)
    (hs : ∀ m s1, I m s1 → wR cl c s1 fun x s2 => wO (truD s2.2 x.d) fun k => wIf k (wB cl body s2 (turnQ (fun s3 => ∃ m', m' < m ∧ I m' s3) Qs)) (Qs .nx s2)) : wS cl (.wh c body) s Qs := by
  have key : ∀ (n m : Nat) (s1 : DS), m < n → I m s1 → ∃ o s3, whD (fun s => (den cl c s).bind fun (x, s1) => (truD s1.2 x.d).map fun k => (k, s1)) (denB cl body) n s1 = some (o, s3) ∧ Qs o s3 := by
    intro n
    induction n with
    | zero => intro m s1 h; exact absurd h (Nat.not_lt_zero _)
    | succ n ih =>
      intro m s1 hmn hI
      obtain ⟨x, s2, ea, k, ek, hk⟩ := hs m s1 hI
      cases k with
      | false => exact ⟨.nx, s2, by simp only [whD, ea, ek, Option.bind_some, Option.map_some], hk⟩
      | true =>
        obtain ⟨o, s4, e2, hq⟩ := hk
        cases o with
        | nx =>
          obtain ⟨m', hm', hI'⟩ := hq
          obtain ⟨o, s3, e3, h3⟩ := ih m' s4 (by omega) hI'
          exact ⟨o, s3, by simp only [whD, ea, ek, Option.bind_some, Option.map_some, e2]; exact e3, h3⟩
        | ct =>
          obtain ⟨m', hm', hI'⟩ := hq
          obtain ⟨o, s3, e3, h3⟩ := ih m' s4 (by omega) hI'
          exact ⟨o, s3, by simp only [whD, ea, ek, Option.bind_some, Option.map_some, e2]; exact e3, h3⟩
        | bk => exact ⟨.nx, s4, by simp only [whD, ea, ek, Option.bind_some, Option.map_some, e2], hq⟩
        | rt d => exact ⟨.rt d, s4, by simp only [whD, ea, ek, Option.bind_some, Option.map_some, e2], hq⟩
  obtain ⟨o, s3, e3, h3⟩ := key big m0 s hm h0
  exact ⟨o, s3, by simp only [denS]; exact e3, h3⟩
theorem ws_brk (q : Qs .bk s) : wS cl .brk s Qs := ⟨_, _, rfl, q⟩
theorem ws_cnt (q : Qs .ct s) : wS cl .cnt s Qs := ⟨_, _, rfl, q⟩
theorem ws_pass (q : Qs .nx s) : wS cl .pass s Qs := ⟨_, _, rfl, q⟩
theorem ws_put {a i e : XE} (h : wR cl e s fun x s1 => wR cl a s1 fun o s2 => wR cl i s2 fun k s3 => wO (putM s3.2 o.d k.d x.d) fun M' => Qs .nx (s3.1, M')) : wS cl (.put a i e) s Qs := by
  obtain ⟨x, s1, e1, o, s2, e2, k, s3, e3, M', e4, q⟩ := h
  exact ⟨_, _, by simp only [denS, e1, e2, e3, e4, Option.bind_some, Option.map_some], q⟩
theorem ws_aug {i : Nat} {op : BOp} {e : XE} {d : D} (h0 : S[i]? = some (.val d)) (h : wR cl e (S, M) fun x s1 => wO (augD op d x.d) fun w => Qs .nx (s1.1.set i (.val w), s1.2)) : wS cl (.aug i op e) (S, M) Qs := by
  obtain ⟨x, s1, ea, w, ew, q⟩ := h
  exact ⟨_, _, by simp only [denS, h0, ea, Option.bind_some, ew, Option.map_some], q⟩
theorem wb_nil (q : Qs .nx s) : wB cl [] s Qs := ⟨_, _, rfl, q⟩
/-- what stands behind a statement -/
def thenQ (cl : CL) (ts : List XS) (Qs : Out → DS → Prop) : Out → DS → Prop
  | .nx, s => wB cl ts s Qs
  | .ct, s => Qs .ct s
  | .bk, s => Qs .bk s
  | .rt d, s => Qs (.rt d) s
theorem wb_cons {t : XS} {ts : List XS} (h : wS cl t s (thenQ cl ts Qs)) : wB cl (t :: ts) s Qs := by
  obtain ⟨o, s1, e1, q⟩ := h
  cases o with
  | nx =>
    obtain ⟨o, s2, e2, q⟩ := q
    exact ⟨o, s2, by simp only [denB, e1, Option.bind_some, e2], q⟩
  | ct => exact ⟨_, s1, by simp only [denB, e1, Option.bind_some], q⟩
  | bk => exact ⟨_, s1, by simp only [denB, e1, Option.bind_some], q⟩
  | rt d => exact ⟨_, s1, by simp only [denB, e1, Option.bind_some], q⟩
/-- the end of a def -/
def retQ (Q : D → List MO → Prop) : Out → DS → Prop
  | .nx, s => Q .non s.2
  | .rt d, s => Q d s.2
  | _, _ => False
theorem wc_fn {T : Tbl} {k : Nat} {f : String} {g : Fn} {ds : List D} {Qc : D → List MO → Prop} (hg : T.globs.lookup f = none) (hf : T.fns.find? (fun g' => g'.name == f) = some g) (hl : ds.length = g.pars) (h : wB (callD T k) g.body (g.start ds, M) (retQ Qc)) : wC (callD T (k + 1)) f ds M Qc := by
  obtain ⟨o, s1, e1, q⟩ := h
  cases o with
  | nx => exact ⟨.non, s1.2, by unfold callD; rw [hg, hf]; dsimp only; rw [if_pos hl, e1]; rfl, q⟩
  | rt d => exact ⟨d, s1.2, by unfold callD; rw [hg, hf]; dsimp only; rw [if_pos hl, e1]; rfl, q⟩
  | bk => exact q.elim
  | ct => exact q.elim
end

/-! ### operations -/
section
variable {Q : R → Prop} {Qb : Bool → Prop} {Qd : D → Prop}
theorem wo_mul {i j : Int} (h : i.natAbs.log2 + j.natAbs.log2 < 1000000) (q : Q (.v (.int (i * j)))) : wO (binD .mul (.int i) (.int j)) Q := ⟨_, if_pos h, q⟩
theorem wo_mod {i j : Int} (h : 0 < j) (q : Q (.v (.int (i % j)))) : wO (binD .mod (.int i) (.int j)) Q := ⟨_, if_pos (by omega), by rw [Int.fmod_eq_emod_of_nonneg i (by omega)]; exact q⟩
theorem wo_fdiv {i j : Int} (h : 0 < j ∧ j < 1073741824) (q : Q (.v (.int (i / j)))) : wO (binD .fdiv (.int i) (.int j)) Q := ⟨_, if_pos ⟨by omega, by omega⟩, by rw [Int.fdiv_eq_ediv_of_nonneg i (by omega)]; exact q⟩
theorem wo_cat {xs ys : List D} (h : xs.length + ys.length ≤ sizeLine) (q : Q (.fl (xs ++ ys))) : wO (binD .add (.lst xs) (.lst ys)) Q := ⟨_, if_pos h, q⟩
theorem wo_catS {x y : Str} (h : x.length + y.length ≤ sizeLine) (q : Q (.v (.str (x ++ y)))) : wO (binD .add (.str x) (.str y)) Q := ⟨_, if_pos h, q⟩
theorem wo_catT {xs ys : List D} (h : xs.length + ys.length ≤ sizeLine) (q : Q (.v (.tup (xs ++ ys)))) : wO (binD .add (.tup xs) (.tup ys)) Q := ⟨_, if_pos h, q⟩
theorem wo_eqI {i j : Int} (q : Qb (decide (i = j))) : wO (cmpD .eq (.int i) (.int j)) Qb := ⟨decide (i = j), by
  show some (decide (V.int i = V.int j)) = _
  rw [dec_int, Bool.beq_eq_decide_eq], q⟩
theorem wo_neI {i j : Int} (q : Qb (!decide (i = j))) : wO (cmpD .ne (.int i) (.int j)) Qb := ⟨!decide (i = j), by
  show some (!decide (V.int i = V.int j)) = _
  rw [dec_int, Bool.beq_eq_decide_eq], q⟩
theorem wo_eqS {i j : Str} (q : Qb (decide (i = j))) : wO (cmpD .eq (.str i) (.str j)) Qb := ⟨decide (i = j), by
  show some (decide (V.str i = V.str j)) = _
  rw [dec_str, Bool.beq_eq_decide_eq], q⟩
theorem wo_neS {i j : Str} (q : Qb (!decide (i = j))) : wO (cmpD .ne (.str i) (.str j)) Qb := ⟨!decide (i = j), by
  show some (!decide (V.str i = V.str j)) = _
  rw [dec_str, Bool.beq_eq_decide_eq], q⟩
theorem wo_eqB {i j : Bool} (q : Qb (decide (i = j))) : wO (cmpD .eq (.bl i) (.bl j)) Qb := ⟨decide (i = j), by
  show some (decide (V.bl i = V.bl j)) = _
  rw [dec_bl, Bool.beq_eq_decide_eq], q⟩
theorem log2_small {i : Int} {n : Nat} (h : i.natAbs < 2 ^ n) : i.natAbs.log2 ≤ n := by
  rcases Nat.eq_zero_or_pos i.natAbs with z | z
  · rw [z]; exact Nat.zero_le _
  · exact Nat.le_of_lt ((Nat.log2_lt (by omega)).mpr h)
theorem wo_mulS {i j : Int} (h1 : -18446744073709551616 < i ∧ i < 18446744073709551616) (h2 : -18446744073709551616 < j ∧ j < 18446744073709551616) (q : Q (.v (.int (i * j)))) : wO (binD .mul (.int i) (.int j)) Q := by
  refine wo_mul ?_ q
  have a := log2_small (i := i) (n := 64) (by omega)
  have b := log2_small (i := j) (n := 64) (by omega)
  omega
theorem wo_mulW {i j : Int} {n m : Nat} (h1 : i.natAbs < 2 ^ n) (h2 : j.natAbs < 2 ^ m) (h : n + m < 1000000) (q : Q (.v (.int (i * j)))) : wO (binD .mul (.int i) (.int j)) Q := by
  refine wo_mul ?_ q
  have a := log2_small h1
  have b := log2_small h2
  omega
theorem atI_lit {xs : List D} {j : Nat} {d : D} (h : xs[j]? = some d) : atI xs (j : Int) = some d := atI_nat h
theorem atI_ok {xs : List D} {i : Int} (h0 : 0 ≤ i) (h1 : i < xs.length) : ∃ d, atI xs i = some d ∧ xs[i.toNat]? = some d := by
  have e : xs[i.toNat]? = some xs[i.toNat] := List.getElem?_eq_getElem (by omega)
  refine ⟨_, ?_, e⟩
  have := atI_lit e
  rwa [Int.toNat_of_nonneg h0] at this
theorem atI_of {xs : List D} {i : Int} {d : D} (h0 : 0 ≤ i) (h : xs[i.toNat]? = some d) : atI xs i = some d := by
  have := atI_lit h
  rwa [Int.toNat_of_nonneg h0] at this
theorem map_erase {α β : Type} (f : α → β) : ∀ (l : List α) (i : Nat), (l.map f).eraseIdx i = (l.eraseIdx i).map f
  | [], _ => rfl
  | _ :: _, 0 => rfl
  | x :: l, i + 1 => by
    show f x :: (l.map f).eraseIdx i = f x :: (l.eraseIdx i).map f
    rw [map_erase f l i]
theorem erasePerm {α : Type} : ∀ (l : List α) (i : Nat) (y : α), l[i]? = some y → (y :: l.eraseIdx i).Perm l
  | [], _, _, h => by simp at h
  | x :: l, 0, y, h => by
    have e : x = y := by simpa using h
    subst e
    exact .refl _
  | x :: l, i + 1, y, h => (List.Perm.swap x y _).trans ((erasePerm l i y (by simpa using h)).cons x)
theorem smallI_ok {i : Int} (h : -4611686018427387904 ≤ i ∧ i < 4611686018427387904) : smallI i = true := by
  unfold smallI
  rw [decide_eq_true (by omega : -(2 ^ 62) ≤ i), decide_eq_true (by omega : i < 2 ^ 62)]
  rfl
theorem seqIx_ok {i : Int} {n : Nat} (h0 : 0 ≤ i) (h1 : i < n) : seqIndex? i n = some i.toNat := by
  unfold seqIndex?
  simp only [if_neg (by omega : ¬ i < 0)]
  rw [if_pos (by rw [Bool.and_eq_true]; exact ⟨decide_eq_true h0, decide_eq_true h1⟩)]
theorem sz_lt' {n : Nat} (h : n < 16777216) : n < sizeLine := by rw [sizeLine_eq]; exact h
theorem sz_le' {n : Nat} (h : n ≤ 16777216) : n ≤ sizeLine := by rw [sizeLine_eq]; exact h
theorem rngL_get {lo : Int} {n i : Nat} {x : D} (h : (rngL lo n)[i]? = some x) : i < n ∧ x = .int (lo + i) := by
  unfold rngL at h
  rw [List.getElem?_map] at h
  obtain ⟨y, hy, rfl⟩ := Option.map_eq_some_iff.mp h
  have hi : i < n := by
    rcases Nat.lt_or_ge i n with z | z
    · exact z
    · rw [List.getElem?_eq_none (by rw [List.length_range]; exact z)] at hy; cases hy
  rw [List.getElem?_range hi] at hy
  cases hy
  exact ⟨hi, rfl⟩
theorem rngL_len {lo : Int} {n : Nat} : (rngL lo n).length = n := by unfold rngL; rw [List.length_map, List.length_range]
theorem map_get {α : Type} {f : α → D} {l : List α} {i : Nat} {x : D} (h : (l.map f)[i]? = some x) : ∃ y, l[i]? = some y ∧ x = f y := by
  rw [List.getElem?_map] at h
  obtain ⟨y, hy, rfl⟩ := Option.map_eq_some_iff.mp h
  exact ⟨y, hy, rfl⟩
theorem get_map {α : Type} {f : α → D} {l : List α} {i : Nat} {y : α} (h : l[i]? = some y) : (l.map f)[i]? = some (f y) := by
  rw [List.getElem?_map, h]
  rfl
theorem get_lt {α : Type} {l : List α} {i : Nat} {y : α} (h : l[i]? = some y) : i < l.length := by
  rcases Nat.lt_or_ge i l.length with z | z
  · exact z
  · rw [List.getElem?_eq_none z] at h; cases h
theorem take_snoc {α : Type} {l : List α} {i : Nat} {y : α} (h : l[i]? = some y) : l.take (i + 1) = l.take i ++ [y] := by
  rw [List.take_add_one, h]
  rfl
theorem drop_cons {α : Type} {l : List α} {i : Nat} {y : α} (h : l[i]? = some y) : l.drop i = y :: l.drop (i + 1) := by
  have hi := get_lt h
  rw [List.drop_eq_getElem_cons hi]
  have e := List.getElem?_eq_getElem hi
  rw [h] at e
  rw [← Option.some.inj e]
/-- xs[i] of an encoded list, i as in Python's own lists, not negative -/
theorem atI_map {α : Type} {f : α → D} {l : List α} {i : Int} {y : α} (h0 : 0 ≤ i) (h : l[i.toNat]? = some y) : atI (l.map f) i = some (f y) := atI_of h0 (get_map h)
/-- a slice of an encoded list -/
def cutG {α : Type} (xs : List α) (lo hi : Option Int) : List α := (xs.drop (HT.sIx xs.length 0 lo)).take (HT.sIx xs.length xs.length hi - HT.sIx xs.length 0 lo)
theorem cutD_map {α : Type} {f : α → D} (l : List α) (lo hi : Option Int) : cutD (l.map f) lo hi = (cutG l lo hi).map f := by
  unfold cutD cutG
  rw [List.length_map, List.map_take, List.map_drop]
/-- data that == can compare -/
def okN (n : Nat) (d : D) : Prop := d.clean = true ∧ d.py.canLay0 = true ∧ d.py.depth ≤ n
theorem okN.mono {n m : Nat} {d : D} (h : okN n d) (k : n ≤ m) : okN m d := ⟨h.1, h.2.1, Nat.le_trans h.2.2 k⟩
theorem okN_int (i : Int) : okN 0 (.int i) := ⟨rfl, rfl, Nat.le_refl _⟩
theorem okN_bl (i : Bool) : okN 0 (.bl i) := ⟨rfl, rfl, Nat.le_refl _⟩
theorem okN_non : okN 0 .non := ⟨rfl, rfl, Nat.le_refl _⟩
theorem okN_str {x : Str} (h : PyData.canLay0 (.str x) = true) : okN 0 (.str x) := ⟨rfl, h, Nat.le_refl _⟩
theorem okN_all {n : Nat} : ∀ {xs : List D}, (∀ x ∈ xs, okN n x) → D.cleanL xs = true ∧ PyData.canLayAll0 (D.pyL xs) = true ∧ PyData.depthAll (D.pyL xs) ≤ n
  | [], _ => ⟨rfl, rfl, Nat.zero_le _⟩
  | x :: xs, h => by
    obtain ⟨a, b, c⟩ := okN_all (xs := xs) fun y hy => h y (List.mem_cons_of_mem _ hy)
    obtain ⟨a', b', c'⟩ := h x List.mem_cons_self
    refine ⟨?_, ?_, ?_⟩
    · show (x.clean && D.cleanL xs) = true
      rw [a', a]; rfl
    · show (x.py.canLay0 && PyData.canLayAll0 (D.pyL xs)) = true
      rw [b', b]; rfl
    · show max x.py.depth (PyData.depthAll (D.pyL xs)) ≤ n
      omega
theorem okN_lst {n : Nat} {xs : List D} (h : ∀ x ∈ xs, okN n x) : okN (n + 1) (.lst xs) := by
  obtain ⟨a, b, c⟩ := okN_all h
  exact ⟨a, b, Nat.succ_le_succ c⟩
theorem okN_tup {n : Nat} {xs : List D} (h : ∀ x ∈ xs, okN n x) : okN (n + 1) (.tup xs) := by
  obtain ⟨a, b, c⟩ := okN_all h
  exact ⟨a, b, Nat.succ_le_succ c⟩
theorem okN_ints (ns : List Int) : okN 1 (.lst (ns.map D.int)) := okN_lst fun x hx => by
  obtain ⟨i, _, rfl⟩ := List.mem_map.mp hx
  exact okN_int i
theorem eqOk_of {d : D} (h : okN 64 d) : eqOk d = true := by
  unfold eqOk SeqAt.shaped
  rw [h.1, h.2.1, decide_eq_true h.2.2]
  rfl
mutual
theorem eqv_same : ∀ d : PyData, d.canLay0 = true → PyData.eqv d d = true
  | .none, _ => rfl
  | .bool b, _ => by simp [PyData.eqv]
  | .int i, _ => by simp [PyData.eqv]
  | .str x, _ => by simp [PyData.eqv]
  | .list xs, h => by
    show PyData.eqvAll xs xs = true
    exact eqvAll_same xs h
  | .tuple xs, h => by
    show PyData.eqvAll xs xs = true
    exact eqvAll_same xs h
  | .dict _, h => by cases h
theorem eqvAll_same : ∀ ds : List PyData, PyData.canLayAll0 ds = true → PyData.eqvAll ds ds = true
  | [], _ => rfl
  | d :: ds, h => by
    have h' : (d.canLay0 && PyData.canLayAll0 ds) = true := h
    rw [Bool.and_eq_true] at h'
    show (PyData.eqv d d && PyData.eqvAll ds ds) = true
    rw [eqv_same d h'.1, eqvAll_same ds h'.2]
    rfl
end
theorem eqD_same {d : D} (h : okN 64 d) : eqD d d = some true := by
  unfold eqD
  split
  · rw [decide_eq_true rfl]
  · rw [if_pos (by rw [eqOk_of h]; rfl), eqv_same _ h.2.1]
theorem wo_eqSame {d : D} (h : okN 64 d) (q : Qb true) : wO (cmpD .eq d d) Qb := ⟨true, eqD_same h, q⟩
theorem wo_neSame {d : D} (h : okN 64 d) (q : Qb false) : wO (cmpD .ne d d) Qb := ⟨false, by show (eqD d d).map (!·) = _; rw [eqD_same h]; rfl, q⟩
end
end DL

end
section
namespace K17
open PySem PySem.Spec L2 DL
def topS (i : Nat) : Stmt := PySem.Challenge.pw_swornlike_k17_whole_chains_rings_and_val.main.body.getD i (.Pass ⟨0, 0, 0, 0⟩)
/-! chain_sum: 0 differences, 1 numbers, 2 number, 3 first, 4 last, 5 total, 6 u, 7 v, 8 c -/
def bf_chain_sum : List XS := [(.ife (.cmp .eq (.bi .len (.var 1)) (.int 0)) [(.ret .non)] []),
    (.loop (.nm 2) (.seq (.var 1)) [(.ife (.or (.cmp .lt (.var 2) (.int 0)) (.cmp .ge (.var 2) (.bi .len (.var 0)))) [(.ret .non)] [])]),
    (.asg (.nm 3) (.idx (.idx (.var 0) (.idx (.var 1) (.int 0))) (.int 0))),
    (.asg (.nm 4) (.var 3)),
    (.asg (.nm 5) (.int 0)),
    (.loop (.nm 2) (.seq (.var 1)) [(.asg (.tup [6, 7, 8]) (.idx (.var 0) (.var 2))),
    (.ife (.cmp .ne (.var 6) (.var 4)) [(.ret .non)] []),
    (.asg (.nm 4) (.var 7)),
    (.asg (.nm 5) (.bin .add (.var 5) (.var 8)))]),
    (.ret (.tup [(.var 3), (.var 4), (.var 5)]))]
def f_chain_sum : Fn := ⟨"chain_sum", 2, ["differences", "numbers", "number", "first", "last", "total", "u", "v", "c"], bf_chain_sum⟩
/-! is_ring: 0 differences, 1 numbers, 2 found -/
def bf_is_ring : List XS := [(.asg (.nm 2) (.call "chain_sum" [(.var 0), (.var 1)])),
    (.ret (.and (.cmp .isnot (.var 2) .non) (.and (.cmp .eq (.idx (.var 2) (.int 0)) (.idx (.var 2) (.int 1))) (.cmp .lt (.idx (.var 2) (.int 2)) (.int 0)))))]
def f_is_ring : Fn := ⟨"is_ring", 2, ["differences", "numbers", "found"], bf_is_ring⟩
/-! keeps_all: 0 differences, 1 values, 2 grounded, 3 u, 4 v, 5 c -/
def bf_keeps_all : List XS := [(.asg (.nm 2) (.bin .add (.lst [(.int 0)]) (.bi .list (.var 1)))),
    (.loop (.tup [3, 4, 5]) (.seq (.var 0)) [(.ife (.cmp .gt (.bin .sub (.idx (.var 2) (.var 3)) (.idx (.var 2) (.var 4))) (.var 5)) [(.ret (.bl false))] [])]),
    (.ret (.bl true))]
def f_keeps_all : Fn := ⟨"keeps_all", 2, ["differences", "values", "grounded", "u", "v", "c"], bf_keeps_all⟩
/-! _law_draw: 0 jar, 1 many, 2 cell -/
def bf_law_draw : List XS := [(.asg (.nm 2) (.int 0)),
    (.ife (.cmp .lt (.idx (.var 0) (.int 1)) (.bi .len (.idx (.var 0) (.int 2)))) [(.asg (.nm 2) (.bin .mod (.idx (.idx (.var 0) (.int 2)) (.idx (.var 0) (.int 1))) (.int 1000003)))] []),
    (.put (.var 0) (.int 1) (.bin .add (.idx (.var 0) (.int 1)) (.int 1))),
    (.put (.var 0) (.int 0) (.bin .mod (.bin .add (.bin .add (.bin .mul (.idx (.var 0) (.int 0)) (.int 69069)) (.bin .mul (.var 2) (.int 40503))) (.bin .mul (.idx (.var 0) (.int 1)) (.int 977))) (.int 4294967296))),
    (.ret (.bin .mod (.bin .fdiv (.idx (.var 0) (.int 0)) (.int 1024)) (.var 1)))]
def f_law_draw : Fn := ⟨"_law_draw", 2, ["jar", "many", "cell"], bf_law_draw⟩
/-! _law_mixed: 0 jar, 1 things, 2 rest, 3 mixed; own mixed rest -/
def bf_law_mixed : List XS := [(.setO 2 (.bi .list (.var 1))),
    (.setO 3 (.lst [])),
    (.wh (.cmp .gt (.lenO 2) (.int 0)) [(.app 3 (.popO 2 (.call "_law_draw" [(.var 0), (.lenO 2)])))]),
    (.ret (.var 3))]
def f_law_mixed : Fn := ⟨"_law_mixed", 2, ["jar", "things", "rest", "mixed"], bf_law_mixed⟩
/-! _law_chain: 0 differences, 1 numbers, 2 total, 3 k -/
def bf_law_chain : List XS := [(.ife (.cmp .eq (.bi .len (.var 1)) (.int 0)) [(.ret .non)] []),
    (.asg (.nm 2) (.int 0)),
    (.loop (.nm 3) (.rng1 (.bi .len (.var 1))) [(.ife (.no (.chain .le .lt (.int 0) (.idx (.var 1) (.var 3)) (.bi .len (.var 0)))) [(.ret .non)] []),
    (.ife (.and (.cmp .gt (.var 3) (.int 0)) (.cmp .ne (.idx (.idx (.var 0) (.idx (.var 1) (.bin .sub (.var 3) (.int 1)))) (.int 1)) (.idx (.idx (.var 0) (.idx (.var 1) (.var 3))) (.int 0)))) [(.ret .non)] []),
    (.asg (.nm 2) (.bin .add (.var 2) (.idx (.idx (.var 0) (.idx (.var 1) (.var 3))) (.int 2))))]),
    (.ret (.tup [(.idx (.idx (.var 0) (.idx (.var 1) (.int 0))) (.int 0)), (.idx (.idx (.var 0) (.idx (.var 1) (.neg (.int 1)))) (.int 1)), (.var 2)]))]
def f_law_chain : Fn := ⟨"_law_chain", 2, ["differences", "numbers", "total", "k"], bf_law_chain⟩
/-! _law_same_sum: 0 answer, 1 due, 2 part -/
def bf_law_same_sum : List XS := [(.ife (.cmp .is (.var 1) .non) [(.ret (.cmp .is (.var 0) .non))] []),
    (.ife (.or (.no (.bi .istuple (.var 0))) (.cmp .ne (.bi .len (.var 0)) (.int 3))) [(.ret (.bl false))] []),
    (.loop (.nm 2) (.seq (.var 0)) [(.ife (.or (.no (.bi .isint (.var 2))) (.bi .isbool (.var 2))) [(.ret (.bl false))] [])]),
    (.ret (.cmp .eq (.var 0) (.var 1)))]
def f_law_same_sum : Fn := ⟨"_law_same_sum", 2, ["answer", "due", "part"], bf_law_same_sum⟩
/-! _law_same_truth: 0 answer, 1 due -/
def bf_law_same_truth : List XS := [(.ret (.and (.bi .isbool (.var 0)) (.cmp .eq (.var 0) (.var 1))))]
def f_law_same_truth : Fn := ⟨"_law_same_truth", 2, ["answer", "due"], bf_law_same_truth⟩
/-! _law_numbers_told: 0 differences, 1 numbers, 2 due, 3 ring, 4 passed -/
def bf_law_numbers_told : List XS := [(.asg (.nm 2) (.call "_law_chain" [(.var 0), (.var 1)])),
    (.asg (.nm 3) (.and (.cmp .isnot (.var 2) .non) (.and (.cmp .eq (.idx (.var 2) (.int 0)) (.idx (.var 2) (.int 1))) (.cmp .lt (.idx (.var 2) (.int 2)) (.int 0))))),
    (.asg (.nm 4) (.lst [(.bi .list (.var 0)), (.bi .list (.var 1))])),
    (.ife (.no (.call "_law_same_sum" [(.call "chain_sum" [(.idx (.var 4) (.int 0)), (.idx (.var 4) (.int 1))]), (.var 2)])) [(.ret (.bl false))] []),
    (.ife (.no (.call "_law_same_sum" [(.call "chain_sum" [(.bi .list (.var 0)), (.bi .tuple (.var 1))]), (.var 2)])) [(.ret (.bl false))] []),
    (.ife (.no (.call "_law_same_truth" [(.call "is_ring" [(.idx (.var 4) (.int 0)), (.idx (.var 4) (.int 1))]), (.var 3)])) [(.ret (.bl false))] []),
    (.ife (.no (.call "_law_same_truth" [(.call "is_ring" [(.bi .list (.var 0)), (.bi .tuple (.var 1))]), (.var 3)])) [(.ret (.bl false))] []),
    (.ret (.and (.cmp .eq (.idx (.var 4) (.int 0)) (.var 0)) (.cmp .eq (.idx (.var 4) (.int 1)) (.var 1))))]
def f_law_numbers_told : Fn := ⟨"_law_numbers_told", 2, ["differences", "numbers", "due", "ring", "passed"], bf_law_numbers_told⟩
/-! _law_kept: 0 differences, 1 values, 2 reached, 3 first, 4 second, 5 most -/
def bf_law_kept : List XS := [(.asg (.nm 2) (.bin .add (.lst [(.int 0)]) (.var 1))),
    (.loop (.tup [3, 4, 5]) (.seq (.var 0)) [(.ife (.cmp .gt (.bin .sub (.idx (.var 2) (.var 3)) (.idx (.var 2) (.var 4))) (.var 5)) [(.ret (.bl false))] [])]),
    (.ret (.bl true))]
def f_law_kept : Fn := ⟨"_law_kept", 2, ["differences", "values", "reached", "first", "second", "most"], bf_law_kept⟩
/-! _law_values_told: 0 differences, 1 values, 2 due, 3 passed -/
def bf_law_values_told : List XS := [(.asg (.nm 2) (.call "_law_kept" [(.var 0), (.var 1)])),
    (.asg (.nm 3) (.lst [(.bi .list (.var 0)), (.bi .list (.var 1))])),
    (.ife (.no (.call "_law_same_truth" [(.call "keeps_all" [(.idx (.var 3) (.int 0)), (.idx (.var 3) (.int 1))]), (.var 2)])) [(.ret (.bl false))] []),
    (.ife (.no (.call "_law_same_truth" [(.call "keeps_all" [(.bi .list (.var 0)), (.bi .tuple (.var 1))]), (.var 2)])) [(.ret (.bl false))] []),
    (.ret (.and (.cmp .eq (.idx (.var 3) (.int 0)) (.var 0)) (.cmp .eq (.idx (.var 3) (.int 1)) (.var 1))))]
def f_law_values_told : Fn := ⟨"_law_values_told", 2, ["differences", "values", "due", "passed"], bf_law_values_told⟩
/-! _law_walk: 0 jar, 1 many, 2 size, 3 scale, 4 nodes, 5 steps, 6 k; own steps -/
def bf_law_walk : List XS := [(.asg (.nm 4) (.comp (.nm 6) (.rng1 (.var 2)) none (.call "_law_draw" [(.var 0), (.bin .add (.var 1) (.int 1))]) [("k", 6)])),
    (.setO 5 (.lst [])),
    (.loop (.nm 6) (.rng1 (.var 2)) [(.app 5 (.tup [(.idx (.var 4) (.var 6)), (.idx (.var 4) (.bin .mod (.bin .add (.var 6) (.int 1)) (.var 2))), (.bin .add (.bin .mul (.bin .sub (.call "_law_draw" [(.var 0), (.int 21)]) (.int 10)) (.var 3)) (.call "_law_draw" [(.var 0), (.int 3)]))]))]),
    (.ret (.var 5))]
def f_law_walk : Fn := ⟨"_law_walk", 4, ["jar", "many", "size", "scale", "nodes", "steps", "k"], bf_law_walk⟩
/-! _law_others: 0 jar, 1 steps, 2 many, 3 scale, 4 others, 5 k, 6 kind, 7 first, 8 second, 9 most; own others -/
def bf_law_others : List XS := [(.setO 4 (.lst [])),
    (.loop (.nm 5) (.rng1 (.bin .add (.int 1) (.call "_law_draw" [(.var 0), (.int 4)]))) [(.asg (.tup [7, 8, 9]) (.idx (.var 1) (.call "_law_draw" [(.var 0), (.bi .len (.var 1))]))),
    (.asg (.nm 6) (.call "_law_draw" [(.var 0), (.int 3)])),
    (.ife (.cmp .eq (.var 6) (.int 1)) [(.asg (.nm 8) (.bin .mod (.bin .add (.bin .add (.var 8) (.int 1)) (.call "_law_draw" [(.var 0), (.var 2)])) (.bin .add (.var 2) (.int 1))))] []),
    (.ife (.cmp .eq (.var 6) (.int 2)) [(.asg (.nm 7) (.call "_law_draw" [(.var 0), (.bin .add (.var 2) (.int 1))])),
    (.asg (.nm 8) (.call "_law_draw" [(.var 0), (.bin .add (.var 2) (.int 1))]))] []),
    (.app 4 (.tup [(.var 7), (.var 8), (.bin .add (.var 9) (.bin .mul (.bin .sub (.call "_law_draw" [(.var 0), (.int 9)]) (.int 4)) (.var 3)))]))]),
    (.ret (.var 4))]
def f_law_others : Fn := ⟨"_law_others", 4, ["jar", "steps", "many", "scale", "others", "k", "kind", "first", "second", "most"], bf_law_others⟩
/-! _law_rows: 0 jar, 1 numbers, 2 count, 3 size, 4 turn, 5 place, 6 rows, 7 k; own rows -/
def bf_law_rows : List XS := [(.asg (.nm 3) (.bi .len (.var 1))),
    (.asg (.nm 4) (.call "_law_draw" [(.var 0), (.var 3)])),
    (.asg (.nm 5) (.call "_law_draw" [(.var 0), (.var 3)])),
    (.setO 6 (.lst [(.var 1), (.bin .add (.slc (.var 1) (some (.var 4)) none) (.slc (.var 1) none (some (.var 4)))), (.bin .add (.var 1) (.var 1)), (.rev (.var 1)), (.slc (.var 1) none (some (.bin .add (.var 5) (.int 1)))), (.lst [])])),
    (.app 6 (.bin .add (.slc (.var 1) none (some (.var 5))) (.slc (.var 1) (some (.bin .add (.var 5) (.int 1))) none))),
    (.app 6 (.bin .add (.bin .add (.slc (.var 1) none (some (.var 5))) (.lst [(.call "_law_draw" [(.var 0), (.var 2)])])) (.slc (.var 1) (some (.bin .add (.var 5) (.int 1))) none))),
    (.app 6 (.bin .add (.bin .add (.slc (.var 1) none (some (.var 5))) (.lst [(.bin .sub (.idx (.var 1) (.var 5)) (.var 2))])) (.slc (.var 1) (some (.bin .add (.var 5) (.int 1))) none))),
    (.app 6 (.bin .add (.bin .add (.slc (.var 1) none (some (.var 5))) (.lst [(.bin .add (.idx (.var 1) (.var 5)) (.var 2))])) (.slc (.var 1) (some (.bin .add (.var 5) (.int 1))) none))),
    (.app 6 (.comp (.nm 7) (.rng1 (.bin .add (.int 1) (.call "_law_draw" [(.var 0), (.int 3)]))) none (.bin .sub (.call "_law_draw" [(.var 0), (.bin .add (.var 2) (.int 4))]) (.int 2)) [("k", 7)])),
    (.ret (.var 6))]
def f_law_rows : Fn := ⟨"_law_rows", 3, ["jar", "numbers", "count", "size", "turn", "place", "rows", "k"], bf_law_rows⟩
/-! _law_closed: 0 steps, 1 total, 2 rest, 3 step -/
def bf_law_closed : List XS := [(.asg (.nm 2) (.bi .sum (.comp (.nm 3) (.seq (.slc (.var 0) none (some (.neg (.int 1))))) none (.idx (.var 3) (.int 2)) [("step", 3)]))),
    (.ret (.bin .add (.slc (.var 0) none (some (.neg (.int 1)))) (.lst [(.tup [(.idx (.idx (.var 0) (.neg (.int 1))) (.int 0)), (.idx (.idx (.var 0) (.neg (.int 1))) (.int 1)), (.bin .sub (.var 1) (.var 2))])])))]
def f_law_closed : Fn := ⟨"_law_closed", 2, ["steps", "total", "rest", "step"], bf_law_closed⟩
/-! _law_chains_told: 0 jar, 1 many, 2 scale, 3 steps, 4 others, 5 order, 6 numbers, 7 rows, 8 total, 9 pool, 10 differences, 11 row, 12 values, 13 k -/
def bf_law_chains_told : List XS := [(.asg (.nm 3) (.call "_law_walk" [(.var 0), (.var 1), (.bin .add (.int 1) (.call "_law_draw" [(.var 0), (.int 6)])), (.var 2)])),
    (.asg (.nm 4) (.call "_law_others" [(.var 0), (.var 3), (.var 1), (.var 2)])),
    (.asg (.nm 5) (.call "_law_mixed" [(.var 0), (.lrng (.bin .add (.bi .len (.var 3)) (.bi .len (.var 4))))])),
    (.asg (.nm 6) (.comp (.nm 13) (.rng1 (.bi .len (.var 3))) none (.ndx (.var 5) (.var 13)) [("k", 13)])),
    (.asg (.nm 7) (.call "_law_rows" [(.var 0), (.var 6), (.bi .len (.var 5))])),
    (.loop (.nm 8) (.seq (.lst [(.bin .mul (.bin .sub (.call "_law_draw" [(.var 0), (.int 7)]) (.int 3)) (.var 2)), (.int 0), (.neg (.int 1))])) [(.asg (.nm 9) (.bin .add (.call "_law_closed" [(.var 3), (.var 8)]) (.var 4))),
    (.asg (.nm 10) (.comp (.nm 13) (.seq (.var 5)) none (.idx (.var 9) (.var 13)) [("k", 13)])),
    (.loop (.nm 11) (.seq (.var 7)) [(.ife (.no (.call "_law_numbers_told" [(.var 10), (.var 11)])) [(.ret (.bl false))] [])]),
    (.asg (.nm 12) (.comp (.nm 13) (.rng1 (.var 1)) none (.bin .mul (.bin .sub (.call "_law_draw" [(.var 0), (.int 21)]) (.int 10)) (.var 2)) [("k", 13)])),
    (.ife (.no (.call "_law_values_told" [(.var 10), (.var 12)])) [(.ret (.bl false))] [])]),
    (.ret (.bl true))]
def f_law_chains_told : Fn := ⟨"_law_chains_told", 3, ["jar", "many", "scale", "steps", "others", "order", "numbers", "rows", "total", "pool", "differences", "row", "values", "k"], bf_law_chains_told⟩
/-! _law_around: 0 jar, 1 values, 2 reached, 3 differences, 4 k, 5 first, 6 second, 7 slack; own differences -/
def bf_law_around : List XS := [(.asg (.nm 2) (.bin .add (.lst [(.int 0)]) (.var 1))),
    (.setO 3 (.lst [])),
    (.loop (.nm 4) (.rng1 (.bin .add (.int 2) (.call "_law_draw" [(.var 0), (.int 6)]))) [(.asg (.nm 5) (.call "_law_draw" [(.var 0), (.bi .len (.var 2))])),
    (.asg (.nm 6) (.call "_law_draw" [(.var 0), (.bi .len (.var 2))])),
    (.asg (.nm 7) (.idx (.lst [(.int 0), (.int 0), (.int 1), (.int 5)]) (.call "_law_draw" [(.var 0), (.int 4)]))),
    (.app 3 (.tup [(.var 5), (.var 6), (.bin .add (.bin .sub (.idx (.var 2) (.var 5)) (.idx (.var 2) (.var 6))) (.var 7))]))]),
    (.ret (.var 3))]
def f_law_around : Fn := ⟨"_law_around", 2, ["jar", "values", "reached", "differences", "k", "first", "second", "slack"], bf_law_around⟩
/-! law: 0 script, 1 jar, 2 many, 3 scale, 4 values, 5 differences, 6 place, 7 shift, 8 at, 9 reached, 10 broken, 11 moved, 12 first, 13 second, 14 most, 15 k -/
def bf_law : List XS := [(.setM 1 (.lst [(.bin .mod (.bi .len (.var 0)) (.int 1000)), (.int 0), (.bi .list (.var 0))])),
    (.asg (.nm 2) (.bin .add (.int 1) (.call "_law_draw" [(.var 1), (.int 5)]))),
    (.asg (.nm 3) (.idx (.lst [(.int 1), (.int 1), (.int 5000), (.bin .pow (.int 10) (.int 30))]) (.call "_law_draw" [(.var 1), (.int 4)]))),
    (.ife (.no (.call "_law_chains_told" [(.var 1), (.var 2), (.var 3)])) [(.ret (.bl false))] []),
    (.asg (.nm 4) (.comp (.nm 15) (.rng1 (.var 2)) none (.bin .add (.bin .mul (.bin .sub (.call "_law_draw" [(.var 1), (.int 21)]) (.int 10)) (.var 3)) (.call "_law_draw" [(.var 1), (.int 5)])) [("k", 15)])),
    (.asg (.nm 5) (.call "_law_around" [(.var 1), (.var 4)])),
    (.ife (.or (.no (.call "_law_values_told" [(.var 5), (.var 4)])) (.no (.call "_law_values_told" [(.lst []), (.var 4)]))) [(.ret (.bl false))] []),
    (.asg (.nm 6) (.call "_law_draw" [(.var 1), (.var 2)])),
    (.loop (.nm 7) (.seq (.lst [(.int 1), (.neg (.int 1))])) [(.asg (.nm 11) (.bin .add (.bin .add (.slc (.var 4) none (some (.var 6))) (.lst [(.bin .add (.idx (.var 4) (.var 6)) (.var 7))])) (.slc (.var 4) (some (.bin .add (.var 6) (.int 1))) none))),
    (.ife (.no (.call "_law_values_told" [(.var 5), (.var 11)])) [(.ret (.bl false))] [])]),
    (.asg (.nm 8) (.call "_law_draw" [(.var 1), (.bi .len (.var 5))])),
    (.asg (.tup [12, 13, 14]) (.idx (.var 5) (.var 8))),
    (.asg (.nm 9) (.bin .add (.lst [(.int 0)]) (.var 4))),
    (.asg (.nm 10) (.tup [(.var 12), (.var 13), (.bin .sub (.bin .sub (.idx (.var 9) (.var 12)) (.idx (.var 9) (.var 13))) (.int 1))])),
    (.ife (.no (.call "_law_values_told" [(.bin .add (.bin .add (.slc (.var 5) none (some (.var 8))) (.lst [(.var 10)])) (.slc (.var 5) (some (.bin .add (.var 8) (.int 1))) none)), (.var 4)])) [(.ret (.bl false))] []),
    (.ret (.and (.call "_law_numbers_told" [(.lst []), (.lst [(.int 0)])]) (.and (.call "_law_numbers_told" [(.lst []), (.lst [])]) (.call "_law_numbers_told" [(.var 5), (.lst [(.var 8), (.var 8)])]))))]
def f_law : Fn := ⟨"law", 1, ["script", "jar", "many", "scale", "values", "differences", "place", "shift", "at", "reached", "broken", "moved", "first", "second", "most", "k"], bf_law⟩
def T : Tbl := ⟨[f_chain_sum, f_is_ring, f_keeps_all, f_law_draw, f_law_mixed, f_law_chain, f_law_same_sum, f_law_same_truth, f_law_numbers_told, f_law_kept, f_law_values_told, f_law_walk, f_law_others, f_law_rows, f_law_closed, f_law_chains_told, f_law_around, f_law], []⟩
theorem cf_chain_sum : chk T f_chain_sum (topS 1) = true := by decide +kernel
theorem kf_chain_sum : BindOk f_chain_sum (topS 1) := fun _ _ _ _ _ _ us hl => match us, hl with | [_, _], _ => rfl
theorem cf_is_ring : chk T f_is_ring (topS 2) = true := by decide +kernel
theorem kf_is_ring : BindOk f_is_ring (topS 2) := fun _ _ _ _ _ _ us hl => match us, hl with | [_, _], _ => rfl
theorem cf_keeps_all : chk T f_keeps_all (topS 3) = true := by decide +kernel
theorem kf_keeps_all : BindOk f_keeps_all (topS 3) := fun _ _ _ _ _ _ us hl => match us, hl with | [_, _], _ => rfl
theorem cf_law_draw : chk T f_law_draw (topS 5) = true := by decide +kernel
theorem kf_law_draw : BindOk f_law_draw (topS 5) := fun _ _ _ _ _ _ us hl => match us, hl with | [_, _], _ => rfl
theorem cf_law_mixed : chk T f_law_mixed (topS 6) = true := by decide +kernel
theorem kf_law_mixed : BindOk f_law_mixed (topS 6) := fun _ _ _ _ _ _ us hl => match us, hl with | [_, _], _ => rfl
theorem cf_law_chain : chk T f_law_chain (topS 7) = true := by decide +kernel
theorem kf_law_chain : BindOk f_law_chain (topS 7) := fun _ _ _ _ _ _ us hl => match us, hl with | [_, _], _ => rfl
theorem cf_law_same_sum : chk T f_law_same_sum (topS 8) = true := by decide +kernel
theorem kf_law_same_sum : BindOk f_law_same_sum (topS 8) := fun _ _ _ _ _ _ us hl => match us, hl with | [_, _], _ => rfl
theorem cf_law_same_truth : chk T f_law_same_truth (topS 9) = true := by decide +kernel
theorem kf_law_same_truth : BindOk f_law_same_truth (topS 9) := fun _ _ _ _ _ _ us hl => match us, hl with | [_, _], _ => rfl
theorem cf_law_numbers_told : chk T f_law_numbers_told (topS 10) = true := by decide +kernel
theorem kf_law_numbers_told : BindOk f_law_numbers_told (topS 10) := fun _ _ _ _ _ _ us hl => match us, hl with | [_, _], _ => rfl
theorem cf_law_kept : chk T f_law_kept (topS 11) = true := by decide +kernel
theorem kf_law_kept : BindOk f_law_kept (topS 11) := fun _ _ _ _ _ _ us hl => match us, hl with | [_, _], _ => rfl
theorem cf_law_values_told : chk T f_law_values_told (topS 12) = true := by decide +kernel
theorem kf_law_values_told : BindOk f_law_values_told (topS 12) := fun _ _ _ _ _ _ us hl => match us, hl with | [_, _], _ => rfl
theorem cf_law_walk : chk T f_law_walk (topS 13) = true := by decide +kernel
theorem kf_law_walk : BindOk f_law_walk (topS 13) := fun _ _ _ _ _ _ us hl => match us, hl with | [_, _, _, _], _ => rfl
theorem cf_law_others : chk T f_law_others (topS 14) = true := by decide +kernel
theorem kf_law_others : BindOk f_law_others (topS 14) := fun _ _ _ _ _ _ us hl => match us, hl with | [_, _, _, _], _ => rfl
theorem cf_law_rows : chk T f_law_rows (topS 15) = true := by decide +kernel
theorem kf_law_rows : BindOk f_law_rows (topS 15) := fun _ _ _ _ _ _ us hl => match us, hl with | [_, _, _], _ => rfl
theorem cf_law_closed : chk T f_law_closed (topS 16) = true := by decide +kernel
theorem kf_law_closed : BindOk f_law_closed (topS 16) := fun _ _ _ _ _ _ us hl => match us, hl with | [_, _], _ => rfl
theorem cf_law_chains_told : chk T f_law_chains_told (topS 17) = true := by decide +kernel
theorem kf_law_chains_told : BindOk f_law_chains_told (topS 17) := fun _ _ _ _ _ _ us hl => match us, hl with | [_, _, _], _ => rfl
theorem cf_law_around : chk T f_law_around (topS 18) = true := by decide +kernel
theorem kf_law_around : BindOk f_law_around (topS 18) := fun _ _ _ _ _ _ us hl => match us, hl with | [_, _], _ => rfl
theorem cf_law : chk T f_law (topS 19) = true := by decide +kernel
theorem kf_law : BindOk f_law (topS 19) := fun _ _ _ _ _ _ us hl => match us, hl with | [_], _ => rfl
theorem tbl_at {K : PySem.W.Frag} {mg : Str → Option Value}
    (d0 : DefAt K mg f_chain_sum (topS 1))
    (d1 : DefAt K mg f_is_ring (topS 2))
    (d2 : DefAt K mg f_keeps_all (topS 3))
    (d3 : DefAt K mg f_law_draw (topS 5))
    (d4 : DefAt K mg f_law_mixed (topS 6))
    (d5 : DefAt K mg f_law_chain (topS 7))
    (d6 : DefAt K mg f_law_same_sum (topS 8))
    (d7 : DefAt K mg f_law_same_truth (topS 9))
    (d8 : DefAt K mg f_law_numbers_told (topS 10))
    (d9 : DefAt K mg f_law_kept (topS 11))
    (d10 : DefAt K mg f_law_values_told (topS 12))
    (d11 : DefAt K mg f_law_walk (topS 13))
    (d12 : DefAt K mg f_law_others (topS 14))
    (d13 : DefAt K mg f_law_rows (topS 15))
    (d14 : DefAt K mg f_law_closed (topS 16))
    (d15 : DefAt K mg f_law_chains_told (topS 17))
    (d16 : DefAt K mg f_law_around (topS 18))
    (d17 : DefAt K mg f_law (topS 19))
    (hb : ∀ x, x ∈ bltNames → mg x = none) : TblAt PySem.Challenge.pw_swornlike_k17_whole_chains_rings_and_val K mg T := by
  refine ⟨fun g hg => ?_, hb, fun x d h => by cases h⟩
  simp only [T, List.mem_cons, List.not_mem_nil, or_false] at hg
  rcases hg with rfl | rfl | rfl | rfl | rfl | rfl | rfl | rfl | rfl | rfl | rfl | rfl | rfl | rfl | rfl | rfl | rfl | rfl
  · exact ⟨_, cf_chain_sum, kf_chain_sum, d0, rfl⟩
  · exact ⟨_, cf_is_ring, kf_is_ring, d1, rfl⟩
  · exact ⟨_, cf_keeps_all, kf_keeps_all, d2, rfl⟩
  · exact ⟨_, cf_law_draw, kf_law_draw, d3, rfl⟩
  · exact ⟨_, cf_law_mixed, kf_law_mixed, d4, rfl⟩
  · exact ⟨_, cf_law_chain, kf_law_chain, d5, rfl⟩
  · exact ⟨_, cf_law_same_sum, kf_law_same_sum, d6, rfl⟩
  · exact ⟨_, cf_law_same_truth, kf_law_same_truth, d7, rfl⟩
  · exact ⟨_, cf_law_numbers_told, kf_law_numbers_told, d8, rfl⟩
  · exact ⟨_, cf_law_kept, kf_law_kept, d9, rfl⟩
  · exact ⟨_, cf_law_values_told, kf_law_values_told, d10, rfl⟩
  · exact ⟨_, cf_law_walk, kf_law_walk, d11, rfl⟩
  · exact ⟨_, cf_law_others, kf_law_others, d12, rfl⟩
  · exact ⟨_, cf_law_rows, kf_law_rows, d13, rfl⟩
  · exact ⟨_, cf_law_closed, kf_law_closed, d14, rfl⟩
  · exact ⟨_, cf_law_chains_told, kf_law_chains_told, d15, rfl⟩
  · exact ⟨_, cf_law_around, kf_law_around, d16, rfl⟩
  · exact ⟨_, cf_law, kf_law, d17, rfl⟩
end K17

end
section
namespace K17
open PySem PySem.Spec L2 DL
local macro_rules | `(tactic| walk_at "d1") => `(tactic| first
  | ((with_reducible apply wr_var); focus exact rfl)
  | with_reducible refine wr_int ?_
  | with_reducible refine wr_bin ?_
  | with_reducible refine wr_idx ?_
  | with_reducible refine wr_call ?_
  | with_reducible refine wr_cmp ?_
  | with_reducible refine wl_cons ?_
  | with_reducible refine wl_nil ?_
  | with_reducible refine wr_bi ?_
  | with_reducible refine wr_and ?_
  | with_reducible refine wr_or ?_
  | with_reducible refine wr_no ?_
  | with_reducible refine wr_tup ?_
  | with_reducible refine wr_lst ?_
  | with_reducible refine wr_slc ?_
  | with_reducible refine wop_n ?_
  | with_reducible refine wop_s ?_
  | with_reducible refine wr_bl ?_
  | with_reducible refine wr_non ?_
  | with_reducible refine wr_str ?_
  | with_reducible refine wr_neg ?_
  | with_reducible refine wr_chain ?_
  | with_reducible refine wr_ite ?_
  | with_reducible refine wr_rev ?_
  | with_reducible refine wr_lrng ?_
  | with_reducible refine wr_ndx ?_
  | with_reducible refine wr_comp ?_
  | ((with_reducible apply wr_lenO); focus exact rfl)
  | ((with_reducible apply wr_idxO); focus exact rfl)
  | ((with_reducible apply wr_popO); focus exact rfl)
  | ((with_reducible apply wr_own); focus exact rfl)
  | with_reducible refine wit_seq ?_
  | with_reducible refine wit_rng1 ?_
  | with_reducible refine wit_rng2 ?_
  | with_reducible refine wt_none ?_
  | with_reducible refine wt_some ?_)
local macro_rules | `(tactic| walk_at "d2") => `(tactic| first
  | ((with_reducible refine wb_nil ?_); dsimp only [thenQ, turnQ, retQ, List.set])
  | with_reducible refine ws_asg ?_
  | with_reducible refine ws_ret ?_
  | with_reducible refine ws_if ?_
  | with_reducible refine ws_put ?_
  | with_reducible refine ws_tup ?_
  | with_reducible refine ws_setO ?_
  | ((with_reducible apply ws_app); focus exact rfl)
  | with_reducible refine ws_for ?_
  | with_reducible refine ws_appM ?_
  | with_reducible refine ws_drop ?_
  | with_reducible refine ws_setM ?_
  | with_reducible refine ws_retN ?_
  | with_reducible refine ws_brk ?_
  | with_reducible refine ws_cnt ?_
  | with_reducible refine ws_pass ?_
  | ((with_reducible apply ws_aug); focus exact rfl))
local macro_rules | `(tactic| walk_at "d3") => `(tactic| first
  | with_reducible refine wo_some ?_
  | ((with_reducible show wO (binD BOp.mul _ _) _); refine wo_mulS ?h1 ?h2 ?_; (case h1 => omega); (case h2 => omega))
  | ((with_reducible show wO (binD BOp.mod _ _) _); refine wo_mod ?h1 ?_; (case h1 => first | assumption | omega))
  | ((with_reducible show wO (binD BOp.fdiv _ _) _); refine wo_fdiv ?h1 ?_; (case h1 => omega))
  | ((with_reducible show wO (cmpD COp.eq _ _) _); first | refine wo_eqI ?_ | refine wo_eqS ?_ | refine wo_eqB ?_)
  | ((with_reducible show wO (cmpD COp.ne _ _) _); first | refine wo_neI ?_ | refine wo_neS ?_)
  | ((with_reducible show wO _ _); apply wo_of; focus exact rfl))
local macro_rules | `(tactic| walk_at "d4") => `(tactic| first
  | with_reducible refine wif_t ?_
  | with_reducible refine wif_f ?_
  | ((with_reducible refine wif_p ?h1 ?_); (case h1 => first | assumption | omega))
  | ((with_reducible refine wif_n ?h1 ?_); (case h1 => first | assumption | omega))
  | ((with_reducible show wIf (!_) _ _); first | refine wif_t ?_ | refine wif_f ?_)
  | ((with_reducible show wIf (D.isNon _) _ _); first | refine wif_t ?_ | refine wif_f ?_))
local macro_rules | `(tactic| walk_at "dn") => `(tactic| first
  | ((with_reducible show thenQ _ _ _ _ _); dsimp only [thenQ, List.set, R.d])
  | ((with_reducible show turnQ _ _ _ _); dsimp only [turnQ, List.set, R.d])
  | ((with_reducible show retQ _ _ _); dsimp only [retQ, List.set, R.d]))
local macro_rules | `(tactic| walk_at "gs") => `(tactic| repeat (first | walk_at "d1" | walk_at "d2" | walk_at "d4" | walk_at "d3" | walk_at "dn"))
local macro_rules | `(tactic| walk_at "go") => `(tactic| repeat (first | walk_at "d1" | with_reducible refine wb_cons ?_ | walk_at "d2" | walk_at "d4" | walk_at "d3" | walk_at "dn"))
/-- the jar after at most n draws -/
def Jar (n : Int) (M : List MO) : Prop := ∃ (a b : Int) (cs : List Int), M = [.lst [.int a, .int b, .lst (cs.map D.int)]] ∧ 0 ≤ a ∧ a < 4294967296 ∧ 0 ≤ b ∧ b ≤ n
theorem Jar.mono {n m : Int} {M : List MO} (J : Jar n M) (h : n ≤ m) : Jar m M := by
  obtain ⟨a, b, cs, e, h1, h2, h3, h4⟩ := J
  exact ⟨a, b, cs, e, h1, h2, h3, by omega⟩
set_option maxHeartbeats 400000 in
theorem draw_ok {k : Nat} {n many : Int} {M : List MO} (J : Jar n M) (hn : n < 1000000) (hm : 0 < many) : wC (callD T (k + 1)) "_law_draw" [.adr 0, .int many] M fun d M' => ∃ v, d = .int v ∧ 0 ≤ v ∧ v < many ∧ Jar (n + 1) M' := by
  obtain ⟨a, b, cs, rfl, h1, h2, h3, h4⟩ := J
  refine wc_fn rfl rfl rfl ?_
  show wB _ bf_law_draw ([.val (.adr 0), .val (.int many), .none], _) _
  unfold bf_law_draw
  walk_at "go"
  have fin : ∀ c : Int, ∃ v, D.int (c % 4294967296 / 1024 % many) = .int v ∧ 0 ≤ v ∧ v < many ∧ Jar (n + 1) [.lst [.int (c % 4294967296), .int (b + 1), .lst (cs.map D.int)]] := fun c =>
    ⟨_, rfl, Int.emod_nonneg _ (by omega), Int.emod_lt_of_pos _ hm, _, _, cs, rfl, Int.emod_nonneg _ (by decide), Int.emod_lt_of_pos _ (by decide), by omega, by omega⟩
  refine wif_d (fun h => ?_) (fun h => ?_)
  · rw [List.length_map] at h
    walk_at "go"
    have e : atI (cs.map D.int) b = some (.int cs[b.toNat]) := by
      refine atI_of h3 ?_
      rw [List.getElem?_map, List.getElem?_eq_getElem (by omega)]
      rfl
    refine wo_of e ?_
    have m1 := Int.emod_nonneg cs[b.toNat] (show (1000003 : Int) ≠ 0 by decide)
    have m2 := Int.emod_lt_of_pos cs[b.toNat] (show (0 : Int) < 1000003 by decide)
    walk_at "go"
    exact fin _
  · walk_at "go"
    exact fin _
theorem Jar.one {n : Int} {M : List MO} (J : Jar n M) : M.length = 1 := by
  obtain ⟨a, b, cs, e, _⟩ := J
  rw [e]
  rfl
theorem size_ok {n : Nat} (h : n < 1000000) : n < sizeLine := by rw [sizeLine_eq]; omega
set_option maxHeartbeats 400000 in
theorem mixed_ok {k : Nat} {n : Int} {M : List MO} {ns : List Int} (J : Jar n M) (hn : n < 100000) (hl : ns.length < 1000) : wC (callD T (k + 2)) "_law_mixed" [.adr 0, .lst (ns.map D.int)] M fun d M' => ∃ ps : List Int, d = .lst (ps.map D.int) ∧ ps.Perm ns ∧ Jar (n + 1000) M' := by
  refine wc_fn rfl rfl rfl ?_
  show wB _ bf_law_mixed ([.val (.adr 0), .val (.lst (ns.map D.int)), .none, .none], _) _
  unfold bf_law_mixed
  walk_at "go"
  refine ⟨_, rfl, by show 2 < 4; decide, ?_⟩
  walk_at "go"
  refine ⟨by rw [sizeLine_eq]; show 0 ≤ _; omega, ?_⟩
  refine ⟨_, rfl, by show 3 < 4; decide, ?_⟩
  walk_at "go"
  refine ws_wh (fun m s => ∃ (rest mixed : List Int) (M : List MO), s = ([.val (.adr 0), .val (.lst (ns.map D.int)), .own (rest.map D.int), .own (mixed.map D.int)], M) ∧ (mixed ++ rest).Perm ns ∧ m = rest.length ∧ mixed.length + rest.length = ns.length ∧ Jar (n + mixed.length) M) (m0 := ns.length) (by unfold big; omega) ⟨ns, [], M, rfl, .refl _, rfl, by simp, by simpa using J⟩ ?_
  rintro m s1 ⟨rest, mixed, M, rfl, hp, rfl, hln, J⟩
  walk_at "go"
  rw [List.length_map]
  refine wif_d (fun h => ?_) (fun h => ?_)
  · walk_at "go"
    rw [List.length_map]
    refine (draw_ok J (by omega) (by omega)).mono ?_
    rintro d M' ⟨v, rfl, v0, v1, J'⟩
    have hv : v.toNat < rest.length := by omega
    have e1 : rest[v.toNat]? = some rest[v.toNat] := List.getElem?_eq_getElem hv
    refine ⟨rest.map D.int, v, v.toNat, .int rest[v.toNat], rfl, rfl, ?_, ?_, ?_, ?_⟩
    · exact smallI_ok (by omega)
    · rw [List.length_map]
      exact seqIx_ok v0 v1
    · rw [List.getElem?_map, e1]
      rfl
    · refine ⟨mixed.map D.int, rfl, ?_, ?_⟩
      · rw [List.length_map]
        exact size_ok (by omega)
      · walk_at "go"
        refine ⟨rest.length - 1, by omega, rest.eraseIdx v.toNat, mixed ++ [rest[v.toNat]], M', ?_, ?_, ?_, ?_, ?_⟩
        · rw [List.map_append, map_erase]
          rfl
        · refine List.Perm.trans ?_ hp
          rw [List.append_assoc]
          refine List.Perm.append_left mixed ?_
          exact erasePerm _ _ _ e1
        · rw [List.length_eraseIdx_of_lt hv]
        · rw [List.length_append, List.length_eraseIdx_of_lt hv, List.length_singleton]
          omega
        · exact J'.mono (by rw [List.length_append, List.length_singleton]; omega)
  · walk_at "go"
    have e : rest = [] := List.length_eq_zero_iff.mp (by omega)
    subst e
    refine ⟨mixed, rfl, by simpa using hp, J.mono (by simp at hln; omega)⟩
abbrev T3 := Int × Int × Int
def e3 (t : T3) : D := .tup [.int t.1, .int t.2.1, .int t.2.2]
def encO : Option T3 → D
  | none => .non
  | some t => e3 t
def inR (ds : List T3) (n : Int) : Bool := decide (0 ≤ n) && decide (n < ds.length)
def at3 (ds : List T3) (n : Int) : T3 := ds.getD n.toNat (0, 0, 0)
def walk (ds : List T3) : Int → Int → List Int → Option (Int × Int)
  | last, total, [] => some (last, total)
  | last, total, n :: ns => if (at3 ds n).1 = last then walk ds (at3 ds n).2.1 (total + (at3 ds n).2.2) ns else none
def walkC (ds : List T3) : Int → Int → List Int → Option (Int × Int)
  | last, total, [] => some (last, total)
  | last, total, n :: ns => if inR ds n = true then (if (at3 ds n).1 = last then walkC ds (at3 ds n).2.1 (total + (at3 ds n).2.2) ns else none) else none
theorem walk_cons (ds : List T3) (last total n : Int) (ns : List Int) : walk ds last total (n :: ns) = if (at3 ds n).1 = last then walk ds (at3 ds n).2.1 (total + (at3 ds n).2.2) ns else none := rfl
theorem walk_nil (ds : List T3) (last total : Int) : walk ds last total [] = some (last, total) := rfl
theorem walkC_cons (ds : List T3) (last total n : Int) (ns : List Int) : walkC ds last total (n :: ns) = if inR ds n = true then (if (at3 ds n).1 = last then walkC ds (at3 ds n).2.1 (total + (at3 ds n).2.2) ns else none) else none := rfl
theorem walkC_nil (ds : List T3) (last total : Int) : walkC ds last total [] = some (last, total) := rfl
theorem walkC_eq (ds : List T3) : ∀ (ns : List Int) (last total : Int), walkC ds last total ns = if ns.all (inR ds) = true then walk ds last total ns else none
  | [], last, total => rfl
  | n :: ns, last, total => by
    unfold walkC walk
    rw [List.all_cons]
    by_cases h : inR ds n = true
    · rw [if_pos h, h, Bool.true_and]
      by_cases e : (at3 ds n).1 = last
      · rw [if_pos e, if_pos e, walkC_eq ds ns]
      · rw [if_neg e, if_neg e]
        split <;> rfl
    · have h' : inR ds n = false := by simpa using h
      rw [h', Bool.false_and]
      rfl
def chainF (ds : List T3) : List Int → Option T3
  | [] => none
  | n :: ns => if (n :: ns).all (inR ds) = true then (walk ds (at3 ds n).1 0 (n :: ns)).map fun p => ((at3 ds n).1, p.1, p.2) else none
/-- numbers in a list or a tuple -/
def Seq (d : D) (ds : List D) : Prop := d = .lst ds ∨ d = .tup ds
theorem idx3 {ds : List T3} {n : Int} (h : inR ds n = true) : atI (ds.map e3) n = some (e3 (at3 ds n)) := by
  unfold inR at h
  rw [Bool.and_eq_true] at h
  have h0 := of_decide_eq_true h.1
  have h1 := of_decide_eq_true h.2
  refine atI_map h0 ?_
  unfold at3
  have hl : n.toNat < ds.length := by omega
  rw [List.getD_eq_getElem?_getD, List.getElem?_eq_getElem hl]
  rfl
set_option maxHeartbeats 1000000 in
theorem chain_ok {k : Nat} {M : List MO} {ds : List T3} {ns : List Int} {nd : D} (hn : Seq nd (ns.map D.int)) : wC (callD T (k + 1)) "chain_sum" [.lst (ds.map e3), nd] M fun d M' => d = encO (chainF ds ns) ∧ M' = M := by
  refine wc_fn rfl rfl rfl ?_
  show wB _ bf_chain_sum ([.val (.lst (ds.map e3)), .val nd, .none, .none, .none, .none, .none, .none, .none], _) _
  unfold bf_chain_sum
  walk_at "go"
  have hlen : biD M .len nd = some (.v (.int (ns.length : Int))) := by
    rcases hn with rfl | rfl <;> simp [biD]
  have hseq : nd.seq = some (ns.map D.int) := by rcases hn with rfl | rfl <;> rfl
  have hidx : ∀ M i, idxD M nd (.int i) = atI (ns.map D.int) i := fun M i => by rcases hn with rfl | rfl <;> rfl
  refine wo_of hlen ?_
  walk_at "go"
  cases ns with
  | nil =>
    refine wif_p rfl ?_
    walk_at "go"
    exact ⟨rfl, rfl⟩
  | cons n0 nr =>
    have hcf : chainF ds (n0 :: nr) = if (n0 :: nr).all (inR ds) = true then (walk ds (at3 ds n0).1 0 (n0 :: nr)).map fun p => ((at3 ds n0).1, p.1, p.2) else none := rfl
    generalize hns : n0 :: nr = ns at *
    refine wif_n (by rw [← hns, List.length_cons]; omega) ?_
    walk_at "go"
    refine wo_of hseq ?_
    have fin : chainF ds ns = none → D.non = encO (chainF ds ns) ∧ M = M := fun h => ⟨by rw [h]; rfl, rfl⟩
    -- all in range
    refine ⟨fun i s => ∃ x, s = ([.val (.lst (ds.map e3)), .val nd, x, .none, .none, .none, .none, .none, .none], M) ∧ (ns.drop i).all (inR ds) = ns.all (inR ds), ⟨_, rfl, by rw [List.drop_zero]⟩, ?_, ?_⟩
    · rintro i x s2 hx ⟨y, rfl, hi⟩
      obtain ⟨v, hv, rfl⟩ := map_get hx
      rw [drop_cons hv, List.all_cons] at hi
      walk_at "go"
      have bad : inR ds v = false → chainF ds ns = none := fun h => by
        rw [h, Bool.false_and] at hi
        rw [hcf, ← hi]
        rfl
      refine wif_d (fun h => ?_) (fun h => ?_)
      · walk_at "go"
        refine fin (bad ?_)
        unfold inR
        rw [decide_eq_false (by omega)]
        rfl
      · walk_at "go"
        rw [List.length_map]
        refine wif_d (fun h2 => ?_) (fun h2 => ?_)
        · walk_at "go"
          refine fin (bad ?_)
          unfold inR
          rw [decide_eq_false (by omega : ¬ v < (ds.length : Int)), Bool.and_false]
        · walk_at "go"
          refine ⟨_, rfl, ?_⟩
          rw [← hi]
          unfold inR
          rw [decide_eq_true (by omega : 0 ≤ v), decide_eq_true (by omega : v < (ds.length : Int))]
          rfl
    · rintro s2 ⟨y, rfl, hi⟩
      rw [List.length_map, List.drop_length] at hi
      have hall : ns.all (inR ds) = true := hi.symm
      have hmem : ∀ n ∈ ns, inR ds n = true := List.all_eq_true.mp hall
      have h0 : inR ds n0 = true := hmem n0 (by rw [← hns]; exact List.mem_cons_self)
      walk_at "go"
      refine wo_of ((hidx _ _).trans (atI_map (y := n0) (by decide) (by rw [← hns]; rfl))) ?_
      refine wo_of (idx3 h0) ?_
      walk_at "go"
      refine wo_of hseq ?_
      refine ⟨fun i s => ∃ x last total u v c, s = ([.val (.lst (ds.map e3)), .val nd, x, .val (.int (at3 ds n0).1), .val (.int last), .val (.int total), u, v, c], M) ∧ walk ds last total (ns.drop i) = walk ds (at3 ds n0).1 0 ns, ⟨_, _, _, _, _, _, rfl, by rw [List.drop_zero]⟩, ?_, ?_⟩
      · rintro i x s2 hx ⟨x2, last, total, u, v, c, rfl, hi⟩
        obtain ⟨n, hv, rfl⟩ := map_get hx
        rw [drop_cons hv] at hi
        rw [walk_cons] at hi
        have hn2 := hmem n (List.mem_of_getElem? hv)
        walk_at "go"
        refine wo_of (idx3 hn2) ?_
        walk_at "go"
        refine wif_nd (fun h => ?_) (fun h => ?_)
        · walk_at "go"
          refine fin ?_
          rw [if_neg h] at hi
          rw [hcf, if_pos hall, ← hi]
          rfl
        · walk_at "go"
          rw [if_pos h] at hi
          exact ⟨_, _, _, _, _, _, rfl, hi⟩
      · rintro s2 ⟨x2, last, total, u, v, c, rfl, hi⟩
        rw [List.length_map, List.drop_length] at hi
        rw [walk_nil] at hi
        walk_at "go"
        refine ⟨by show 3 ≤ _; rw [sizeLine_eq]; omega, ?_⟩
        walk_at "go"
        refine ⟨?_, rfl⟩
        rw [hcf, if_pos hall, ← hi]
        rfl

/-- the last second part before number k -/
def lastOf (ds : List T3) (ns : List Int) : Nat → Int
  | 0 => (at3 ds (ns.getD 0 0)).1
  | k + 1 => (at3 ds (ns.getD k 0)).2.1
theorem getD_of {l : List Int} {i : Nat} {v : Int} (h : l[i]? = some v) : l.getD i 0 = v := by
  rw [List.getD_eq_getElem?_getD, h]
  rfl
set_option maxHeartbeats 1000000 in
theorem lchain_ok {k : Nat} {M : List MO} {ds : List T3} {ns : List Int} (hl : ns.length < 1000000) : wC (callD T (k + 1)) "_law_chain" [.lst (ds.map e3), .lst (ns.map D.int)] M fun d M' => d = encO (chainF ds ns) ∧ M' = M := by
  refine wc_fn rfl rfl rfl ?_
  show wB _ bf_law_chain ([.val (.lst (ds.map e3)), .val (.lst (ns.map D.int)), .none, .none], _) _
  unfold bf_law_chain
  walk_at "go"
  rw [List.length_map]
  cases ns with
  | nil =>
    refine wif_p rfl ?_
    walk_at "go"
    exact ⟨rfl, rfl⟩
  | cons n0 nr =>
    have hcf : chainF ds (n0 :: nr) = if (n0 :: nr).all (inR ds) = true then (walk ds (at3 ds n0).1 0 (n0 :: nr)).map fun p => ((at3 ds n0).1, p.1, p.2) else none := rfl
    have hg0 : (n0 :: nr)[0]? = some n0 := rfl
    have hpos : 0 < (n0 :: nr).length := Nat.succ_pos _
    generalize n0 :: nr = ns at *
    refine wif_n (by omega) ?_
    walk_at "go"
    rw [List.length_map]
    refine ⟨_, rfl, smallI_ok (by omega), ?_⟩
    have fin : walkC ds (at3 ds n0).1 0 ns = none → D.non = encO (chainF ds ns) ∧ M = M := fun h => by
      rw [walkC_eq] at h
      refine ⟨?_, rfl⟩
      rw [hcf]
      split
      · rename_i ha
        rw [if_pos ha] at h
        rw [h]
        rfl
      · rfl
    refine ⟨fun i s => ∃ x total, s = ([.val (.lst (ds.map e3)), .val (.lst (ns.map D.int)), .val (.int total), x], M) ∧ walkC ds (lastOf ds ns i) total (ns.drop i) = walkC ds (at3 ds n0).1 0 ns ∧ ∀ j v, j < i → ns[j]? = some v → inR ds v = true, ⟨_, 0, rfl, by rw [List.drop_zero]; unfold lastOf; rw [getD_of hg0], fun j v hj => absurd hj (Nat.not_lt_zero _)⟩, ?_, ?_⟩
    · rintro i x s2 hx ⟨y, total, rfl, hi, hin⟩
      obtain ⟨hlt, rfl⟩ := rngL_get hx
      rw [Int.toNat_natCast] at hlt
      rw [Int.zero_add]
      have hv : ns[i]? = some ns[i] := List.getElem?_eq_getElem hlt
      rw [drop_cons hv, walkC_cons] at hi
      have ha : atI (ns.map D.int) (i : Int) = some (.int ns[i]) := atI_lit (get_map hv)
      generalize ns[i] = v at *
      walk_at "go"
      refine wo_of ha ?_
      walk_at "go"
      refine wif_d (fun h0 => ?_) (fun h0 => ?_)
      rotate_left
      · walk_at "go"
        refine fin ?_
        rw [if_neg (by unfold inR; rw [decide_eq_false (by omega : ¬ (0 ≤ v))]; simp)] at hi
        exact hi.symm
      walk_at "go"
      rw [List.length_map]
      refine wif_not (wif_d (fun h1 => ?_) (fun h1 => ?_))
      rotate_left
      · walk_at "go"
        refine fin ?_
        rw [if_neg (by unfold inR; rw [decide_eq_false (by omega : ¬ (v < (ds.length : Int)))]; simp)] at hi
        exact hi.symm
      have hR : inR ds v = true := by unfold inR; rw [decide_eq_true h0, decide_eq_true h1]; rfl
      rw [if_pos hR] at hi
      have hin' : ∀ j w, j < i + 1 → ns[j]? = some w → inR ds w = true := fun j w hj hw => by
        by_cases e : j = i
        · subst e
          rw [hv] at hw
          cases hw
          exact hR
        · exact hin j w (by omega) hw
      have hlast : lastOf ds ns (i + 1) = (at3 ds v).2.1 := by
        show (at3 ds (ns.getD i 0)).2.1 = _
        rw [getD_of hv]
      walk_at "go"
      by_cases hi0 : i = 0
      · subst hi0
        refine wif_n (by omega) ?_
        walk_at "go"
        refine wo_of ha ?_
        refine wo_of (idx3 hR) ?_
        walk_at "go"
        have e0 : (at3 ds v).1 = lastOf ds ns 0 := by
          unfold lastOf
          rw [getD_of hv]
        rw [if_pos e0] at hi
        exact ⟨_, _, rfl, by rw [hlast]; exact hi, hin'⟩
      · refine wif_p (by omega) ?_
        walk_at "go"
        have hj : i - 1 < ns.length := by omega
        have hw : ns[i - 1]? = some ns[i - 1] := List.getElem?_eq_getElem hj
        have hb : atI (ns.map D.int) ((i : Int) - 1) = some (.int ns[i - 1]) := atI_of (by omega) (by
          rw [show ((i : Int) - 1).toNat = i - 1 by omega]
          exact get_map hw)
        have hRw := hin (i - 1) _ (by omega) hw
        have hl2 : lastOf ds ns i = (at3 ds ns[i - 1]).2.1 := by
          obtain ⟨i', rfl⟩ : ∃ i', i = i' + 1 := ⟨i - 1, by omega⟩
          show (at3 ds (ns.getD i' 0)).2.1 = _
          rw [getD_of (show ns[i']? = some ns[i' + 1 - 1] from hw)]
        generalize ns[i - 1] = w at *
        refine wo_of hb ?_
        refine wo_of (idx3 hRw) ?_
        walk_at "go"
        refine wo_of ha ?_
        refine wo_of (idx3 hR) ?_
        walk_at "go"
        refine wif_nd (fun h => ?_) (fun h => ?_)
        · walk_at "go"
          refine fin ?_
          rw [hl2, if_neg (fun e => h e.symm)] at hi
          exact hi.symm
        · walk_at "go"
          refine wo_of ha ?_
          refine wo_of (idx3 hR) ?_
          walk_at "go"
          rw [hl2, if_pos h.symm] at hi
          exact ⟨_, _, rfl, by rw [hlast]; exact hi, hin'⟩
    · rintro s2 ⟨y, total, rfl, hi, hin⟩
      rw [rngL_len, Int.toNat_natCast, List.drop_length, walkC_nil] at hi
      rw [rngL_len, Int.toNat_natCast] at hin
      rw [walkC_eq] at hi
      have hall : ns.all (inR ds) = true := by
        rw [List.all_eq_true]
        intro v hv
        obtain ⟨j, hj, e⟩ := List.getElem_of_mem hv
        exact hin j v hj (by rw [List.getElem?_eq_getElem hj, e])
      rw [if_pos hall] at hi
      have hR0 : inR ds n0 = true := hin 0 n0 hpos hg0
      obtain ⟨z, hll⟩ : ∃ z, ns[ns.length - 1]? = some z := ⟨_, List.getElem?_eq_getElem (by omega)⟩
      have hRl := hin (ns.length - 1) _ (by omega) hll
      have hlv : lastOf ds ns ns.length = (at3 ds z).2.1 := by
        obtain ⟨m, hm⟩ : ∃ m, ns.length = m + 1 := ⟨ns.length - 1, by omega⟩
        rw [hm] at hll ⊢
        show (at3 ds (ns.getD m 0)).2.1 = _
        rw [getD_of (show ns[m]? = some z from hll)]
      have hal : atI (ns.map D.int) (-1) = some (.int z) := by
        unfold atI ixN
        rw [List.length_map, if_neg (by decide), if_pos (by omega)]
        show (ns.map D.int)[(-1 + (ns.length : Int)).toNat]? = _
        rw [show (-1 + (ns.length : Int)).toNat = ns.length - 1 by omega]
        exact get_map hll
      walk_at "go"
      refine wo_of (atI_map (y := n0) (by decide) hg0) ?_
      refine wo_of (idx3 hR0) ?_
      walk_at "go"
      refine ⟨1, rfl, ?_⟩
      refine wo_of hal ?_
      refine wo_of (idx3 hRl) ?_
      walk_at "go"
      refine ⟨by show 3 ≤ _; rw [sizeLine_eq]; omega, ?_⟩
      walk_at "go"
      refine ⟨?_, rfl⟩
      rw [hcf, if_pos hall, ← hi, hlv]
      rfl
def ringF (ds : List T3) (ns : List Int) : Bool := match chainF ds ns with
  | none => false
  | some t => decide (t.1 = t.2.1) && decide (t.2.2 < 0)
theorem ok_e3 (t : T3) : okN 1 (e3 t) := okN_tup fun x hx => by
  simp only [List.mem_cons, List.not_mem_nil, or_false] at hx
  rcases hx with rfl | rfl | rfl <;> exact okN_int _
theorem ok_ds (ds : List T3) : okN 2 (.lst (ds.map e3)) := okN_lst fun x hx => by
  obtain ⟨t, _, rfl⟩ := List.mem_map.mp hx
  exact ok_e3 t
set_option maxHeartbeats 1000000 in
theorem ring_ok {k : Nat} {M : List MO} {ds : List T3} {ns : List Int} {nd : D} (hn : Seq nd (ns.map D.int)) : wC (callD T (k + 2)) "is_ring" [.lst (ds.map e3), nd] M fun d M' => d = .bl (ringF ds ns) ∧ M' = M := by
  refine wc_fn rfl rfl rfl ?_
  show wB _ bf_is_ring ([.val (.lst (ds.map e3)), .val nd, .none], _) _
  unfold bf_is_ring
  walk_at "go"
  refine (chain_ok hn).mono ?_
  rintro d M' ⟨rfl, rfl⟩
  walk_at "go"
  unfold ringF
  cases chainF ds ns with
  | none =>
    walk_at "go"
    exact ⟨rfl, rfl⟩
  | some t =>
    obtain ⟨a, b, c⟩ := t
    walk_at "go"
    refine wif_d (fun h => ?_) (fun h => ?_)
    · walk_at "go"
      refine ⟨?_, rfl⟩
      rw [decide_eq_true h]
      rfl
    · walk_at "go"
      refine ⟨?_, rfl⟩
      rw [decide_eq_false h]
      rfl
set_option maxHeartbeats 1000000 in
theorem same_sum_ok {k : Nat} {M : List MO} {r : Option T3} : wC (callD T (k + 1)) "_law_same_sum" [encO r, encO r] M fun d M' => d = .bl true ∧ M' = M := by
  refine wc_fn rfl rfl rfl ?_
  show wB _ bf_law_same_sum ([.val (encO r), .val (encO r), .none], _) _
  unfold bf_law_same_sum
  walk_at "go"
  cases r with
  | none =>
    walk_at "go"
    exact ⟨rfl, rfl⟩
  | some t =>
    walk_at "go"
    refine ⟨fun i s => ∃ x, s = ([.val (e3 t), .val (e3 t), x], M), ⟨_, rfl⟩, ?_, ?_⟩
    · rintro i x s2 hx ⟨y, rfl⟩
      obtain ⟨a, b, c⟩ := t
      have hx' : ∃ v, x = .int v := by
        match i, hx with
        | 0, h => exact ⟨a, by cases h; rfl⟩
        | 1, h => exact ⟨b, by cases h; rfl⟩
        | 2, h => exact ⟨c, by cases h; rfl⟩
      obtain ⟨v, rfl⟩ := hx'
      walk_at "go"
      exact ⟨_, rfl⟩
    · rintro s2 ⟨y, rfl⟩
      walk_at "go"
      exact ⟨by rw [eqv_same _ (ok_e3 t).2.1], rfl⟩
theorem same_truth_ok {k : Nat} {M : List MO} {b : Bool} : wC (callD T (k + 1)) "_law_same_truth" [.bl b, .bl b] M fun d M' => d = .bl true ∧ M' = M := by
  refine wc_fn rfl rfl rfl ?_
  show wB _ bf_law_same_truth ([.val (.bl b), .val (.bl b)], _) _
  unfold bf_law_same_truth
  walk_at "go"
  exact ⟨by rw [decide_eq_true rfl], rfl⟩

theorem ring_read {cl : CL} {ds : List T3} {ns : List Int} {Q : R → DS → Prop} {S : List SV} {M : List MO} (hS : S[2]? = some (.val (encO (chainF ds ns)))) (q : Q (.v (.bl (ringF ds ns))) (S, M)) :
      wR cl (.and (.cmp .isnot (.var 2) .non) (.and (.cmp .eq (.idx (.var 2) (.int 0)) (.idx (.var 2) (.int 1))) (.cmp .lt (.idx (.var 2) (.int 2)) (.int 0)))) (S, M) Q := by
  revert hS q
  unfold ringF
  cases chainF ds ns with
  | none =>
    intro hS q
    refine wr_and (wr_cmp (wr_var hS ?_))
    walk_at "go"
    exact q
  | some t =>
    obtain ⟨a, b, c⟩ := t
    intro hS q
    refine wr_and (wr_cmp (wr_var hS ?_))
    walk_at "go"
    refine wr_var hS ?_
    walk_at "go"
    refine wr_var hS ?_
    walk_at "go"
    by_cases h : a = b
    · refine wif_p h ?_
      dsimp only at q
      rw [decide_eq_true h] at q
      refine wr_cmp (wr_idx (wr_var hS ?_))
      walk_at "go"
      exact q
    · refine wif_n h ?_
      dsimp only at q
      rw [decide_eq_false h] at q
      show Q (.v (.bl (decide (a = b)))) (S, M)
      rw [decide_eq_false h]
      exact q
set_option maxHeartbeats 2000000 in
theorem numbers_ok {k : Nat} {M : List MO} {ds : List T3} {ns : List Int} (hl : ns.length < 1000000) : wC (callD T (k + 3)) "_law_numbers_told" [.lst (ds.map e3), .lst (ns.map D.int)] M fun d M' => d = .bl true ∧ M' = M := by
  refine wc_fn rfl rfl rfl ?_
  show wB _ bf_law_numbers_told ([.val (.lst (ds.map e3)), .val (.lst (ns.map D.int)), .none, .none, .none], _) _
  unfold bf_law_numbers_told
  refine wb_cons ?_
  walk_at "gs"
  refine (lchain_ok hl).mono ?_
  rintro d M' ⟨rfl, rfl⟩
  walk_at "gs"
  refine wb_cons (ws_asg (ring_read rfl ?_))
  walk_at "go"
  refine ⟨by show 2 ≤ _; rw [sizeLine_eq]; omega, ?_⟩
  walk_at "go"
  refine (chain_ok (.inl rfl)).mono ?_
  rintro d M' ⟨rfl, rfl⟩
  walk_at "go"
  refine same_sum_ok.mono ?_
  rintro d M' ⟨rfl, rfl⟩
  walk_at "go"
  refine (chain_ok (.inr rfl)).mono ?_
  rintro d M' ⟨rfl, rfl⟩
  walk_at "go"
  refine same_sum_ok.mono ?_
  rintro d M' ⟨rfl, rfl⟩
  walk_at "go"
  refine (ring_ok (.inl rfl)).mono ?_
  rintro d M' ⟨rfl, rfl⟩
  walk_at "go"
  refine same_truth_ok.mono ?_
  rintro d M' ⟨rfl, rfl⟩
  walk_at "go"
  refine (ring_ok (.inr rfl)).mono ?_
  rintro d M' ⟨rfl, rfl⟩
  walk_at "go"
  refine same_truth_ok.mono ?_
  rintro d M' ⟨rfl, rfl⟩
  walk_at "go"
  refine wo_eqSame ((ok_ds ds).mono (by decide)) ?_
  walk_at "go"
  refine wo_eqSame ((okN_ints ns).mono (by decide)) ?_
  walk_at "go"
  exact ⟨rfl, rfl⟩
local macro_rules | `(tactic| walk_at "d3") => `(tactic| first
  | ((with_reducible show _ ≤ sizeLine ∧ _); refine And.intro (sz_le' (by simp only [List.length_cons, List.length_nil]; omega)) ?_))
def g0 (vs : List Int) (i : Int) : Int := (0 :: vs).getD i.toNat 0
def inV (vs : List Int) (t : T3) : Prop := (0 ≤ t.1 ∧ t.1 ≤ vs.length) ∧ 0 ≤ t.2.1 ∧ t.2.1 ≤ vs.length
def keptF (ds : List T3) (vs : List Int) : Bool := ds.all fun t => !decide (t.2.2 < g0 vs t.1 - g0 vs t.2.1)
theorem at_g0 {vs : List Int} {i : Int} (h0 : 0 ≤ i) (h1 : i ≤ vs.length) : atI (D.int 0 :: vs.map D.int) i = some (.int (g0 vs i)) := by
  have e : (D.int 0 :: vs.map D.int) = (0 :: vs).map D.int := rfl
  rw [e]
  refine atI_map h0 ?_
  unfold g0
  have hl : i.toNat < (0 :: vs).length := by rw [List.length_cons]; omega
  rw [List.getD_eq_getElem?_getD, List.getElem?_eq_getElem hl]
  rfl
set_option maxHeartbeats 1000000 in
theorem keeps_ok {k : Nat} {M : List MO} {ds : List T3} {vs : List Int} {nd : D} (hn : Seq nd (vs.map D.int)) (hl : vs.length < 1000000) (hd : ∀ t ∈ ds, inV vs t) : wC (callD T (k + 1)) "keeps_all" [.lst (ds.map e3), nd] M fun d M' => d = .bl (keptF ds vs) ∧ M' = M := by
  refine wc_fn rfl rfl rfl ?_
  show wB _ bf_keeps_all ([.val (.lst (ds.map e3)), .val nd, .none, .none, .none, .none], _) _
  unfold bf_keeps_all
  have hlist : biD M .list nd = some (.fl (vs.map D.int)) := by rcases hn with rfl | rfl <;> rfl
  walk_at "go"
  refine wo_of hlist ?_
  refine wo_cat (sz_le' (by rw [List.length_map]; simp only [List.length_cons, List.length_nil]; omega)) ?_
  walk_at "go"
  refine ⟨fun i s => ∃ u v c, s = ([.val (.lst (ds.map e3)), .val nd, .val (.lst (.int 0 :: vs.map D.int)), u, v, c], M) ∧ keptF (ds.drop i) vs = keptF ds vs, ⟨_, _, _, rfl, by rw [List.drop_zero]⟩, ?_, ?_⟩
  · rintro i x s2 hx ⟨u, v, c, rfl, hi⟩
    obtain ⟨t, ht, rfl⟩ := map_get hx
    have htm := hd t (List.mem_of_getElem? ht)
    rw [drop_cons ht] at hi
    have hi' : ((!decide (t.2.2 < g0 vs t.1 - g0 vs t.2.1)) && keptF (ds.drop (i + 1)) vs) = keptF ds vs := hi
    obtain ⟨a, b, c⟩ := t
    walk_at "go"
    refine wo_of (at_g0 htm.1.1 htm.1.2) ?_
    walk_at "go"
    refine wo_of (at_g0 htm.2.1 htm.2.2) ?_
    walk_at "go"
    refine wif_d (fun h => ?_) (fun h => ?_)
    · walk_at "go"
      refine ⟨?_, rfl⟩
      rw [decide_eq_true h] at hi'
      rw [← hi']
      rfl
    · walk_at "go"
      rw [decide_eq_false h] at hi'
      exact ⟨_, _, _, rfl, hi'⟩
  · rintro s2 ⟨u, v, c, rfl, hi⟩
    rw [List.length_map, List.drop_length] at hi
    walk_at "go"
    exact ⟨by rw [← hi]; rfl, rfl⟩
set_option maxHeartbeats 1000000 in
theorem kept_ok {k : Nat} {M : List MO} {ds : List T3} {vs : List Int} (hl : vs.length < 1000000) (hd : ∀ t ∈ ds, inV vs t) : wC (callD T (k + 1)) "_law_kept" [.lst (ds.map e3), .lst (vs.map D.int)] M fun d M' => d = .bl (keptF ds vs) ∧ M' = M := by
  refine wc_fn rfl rfl rfl ?_
  show wB _ bf_law_kept ([.val (.lst (ds.map e3)), .val (.lst (vs.map D.int)), .none, .none, .none, .none], _) _
  unfold bf_law_kept
  walk_at "go"
  refine wo_cat (sz_le' (by rw [List.length_map]; simp only [List.length_cons, List.length_nil]; omega)) ?_
  walk_at "go"
  refine ⟨fun i s => ∃ u v c, s = ([.val (.lst (ds.map e3)), .val (.lst (vs.map D.int)), .val (.lst (.int 0 :: vs.map D.int)), u, v, c], M) ∧ keptF (ds.drop i) vs = keptF ds vs, ⟨_, _, _, rfl, by rw [List.drop_zero]⟩, ?_, ?_⟩
  · rintro i x s2 hx ⟨u, v, c, rfl, hi⟩
    obtain ⟨t, ht, rfl⟩ := map_get hx
    have htm := hd t (List.mem_of_getElem? ht)
    rw [drop_cons ht] at hi
    have hi' : ((!decide (t.2.2 < g0 vs t.1 - g0 vs t.2.1)) && keptF (ds.drop (i + 1)) vs) = keptF ds vs := hi
    obtain ⟨a, b, c⟩ := t
    walk_at "go"
    refine wo_of (at_g0 htm.1.1 htm.1.2) ?_
    walk_at "go"
    refine wo_of (at_g0 htm.2.1 htm.2.2) ?_
    walk_at "go"
    refine wif_d (fun h => ?_) (fun h => ?_)
    · walk_at "go"
      refine ⟨?_, rfl⟩
      rw [decide_eq_true h] at hi'
      rw [← hi']
      rfl
    · walk_at "go"
      rw [decide_eq_false h] at hi'
      exact ⟨_, _, _, rfl, hi'⟩
  · rintro s2 ⟨u, v, c, rfl, hi⟩
    rw [List.length_map, List.drop_length] at hi
    walk_at "go"
    exact ⟨by rw [← hi]; rfl, rfl⟩
set_option maxHeartbeats 2000000 in
theorem values_ok {k : Nat} {M : List MO} {ds : List T3} {vs : List Int} (hl : vs.length < 1000000) (hd : ∀ t ∈ ds, inV vs t) : wC (callD T (k + 3)) "_law_values_told" [.lst (ds.map e3), .lst (vs.map D.int)] M fun d M' => d = .bl true ∧ M' = M := by
  refine wc_fn rfl rfl rfl ?_
  show wB _ bf_law_values_told ([.val (.lst (ds.map e3)), .val (.lst (vs.map D.int)), .none, .none], _) _
  unfold bf_law_values_told
  walk_at "go"
  refine (kept_ok hl hd).mono ?_
  rintro d M' ⟨rfl, rfl⟩
  walk_at "go"
  refine (keeps_ok (.inl rfl) hl hd).mono ?_
  rintro d M' ⟨rfl, rfl⟩
  walk_at "go"
  refine same_truth_ok.mono ?_
  rintro d M' ⟨rfl, rfl⟩
  walk_at "go"
  refine (keeps_ok (.inr rfl) hl hd).mono ?_
  rintro d M' ⟨rfl, rfl⟩
  walk_at "go"
  refine same_truth_ok.mono ?_
  rintro d M' ⟨rfl, rfl⟩
  walk_at "go"
  refine wo_eqSame ((ok_ds ds).mono (by decide)) ?_
  walk_at "go"
  refine wo_eqSame ((okN_ints vs).mono (by decide)) ?_
  walk_at "go"
  exact ⟨rfl, rfl⟩
def okT (many : Int) (t : T3) : Prop := (0 ≤ t.1 ∧ t.1 ≤ many) ∧ 0 ≤ t.2.1 ∧ t.2.1 ≤ many
def okS (scale : Int) : Prop := scale.natAbs < 2 ^ 110
theorem wo_scale {v scale : Int} {Q : R → Prop} (hs : okS scale) (h : -100 < v ∧ v < 100) (q : Q (.v (.int (v * scale)))) : wO (binD .mul (.int v) (.int scale)) Q :=
  wo_mulW (n := 8) (m := 110) (by omega) hs (by decide) q
set_option maxHeartbeats 2000000 in
theorem walk_ok {k : Nat} {n many size scale : Int} {M : List MO} (J : Jar n M) (hn : n < 900000) (hm : 0 < many) (hz : 0 < size ∧ size < 100) (hs : okS scale) : wC (callD T (k + 2)) "_law_walk" [.adr 0, .int many, .int size, .int scale] M fun d M' => ∃ ss : List T3, d = .lst (ss.map e3) ∧ (ss.length : Int) = size ∧ (∀ t ∈ ss, okT many t) ∧ Jar (n + 1000) M' := by
  refine wc_fn rfl rfl rfl ?_
  show wB _ bf_law_walk ([.val (.adr 0), .val (.int many), .val (.int size), .val (.int scale), .none, .none, .none], _) _
  unfold bf_law_walk
  walk_at "go"
  refine ⟨_, rfl, smallI_ok (by omega), ?_⟩
  refine ⟨fun i acc s => ∃ (ns : List Int) (M : List MO), acc = ns.map D.int ∧ ns.length = i ∧ (∀ n ∈ ns, 0 ≤ n ∧ n ≤ many) ∧ s = ([.val (.adr 0), .val (.int many), .val (.int size), .val (.int scale), .none, .none, .none], M) ∧ Jar (n + i) M, ⟨[], M, rfl, rfl, fun _ h => absurd h List.not_mem_nil, rfl, by simpa using J⟩, ?_, ?_⟩
  · rintro i x acc s2 hx ⟨ns, M, rfl, rfl, hb, rfl, J⟩
    obtain ⟨hlt, rfl⟩ := rngL_get hx
    walk_at "go"
    refine (draw_ok J (by omega) (by omega)).mono ?_
    rintro d M' ⟨v, rfl, v0, v1, J'⟩
    refine ⟨sz_lt' (by rw [List.length_map]; omega), ns ++ [v], M', by rw [List.map_append]; rfl, by rw [List.length_append]; rfl, ?_, rfl, J'.mono (by omega)⟩
    intro m hm
    rw [List.mem_append, List.mem_singleton] at hm
    rcases hm with h | rfl
    · exact hb m h
    · omega
  · rintro acc s2 ⟨ns, M, rfl, hl, hb, rfl, J⟩
    rw [rngL_len] at hl J
    walk_at "go"
    refine ⟨_, rfl, by show 5 < 7; decide, ?_⟩
    walk_at "go"
    refine ⟨_, rfl, smallI_ok (by omega), ?_⟩
    refine ⟨fun i s => ∃ (ss : List T3) (M : List MO) (x : SV), s = ([.val (.adr 0), .val (.int many), .val (.int size), .val (.int scale), .val (.lst (ns.map D.int)), .own (ss.map e3), x], M) ∧ ss.length = i ∧ (∀ t ∈ ss, okT many t) ∧ Jar (n + size + 2 * i) M, ⟨[], M, _, rfl, rfl, fun _ h => absurd h List.not_mem_nil, J.mono (by omega)⟩, ?_, ?_⟩
    · rintro i x s2 hx ⟨ss, M, x, rfl, rfl, hb2, J⟩
      obtain ⟨hlt, rfl⟩ := rngL_get hx
      rw [Int.zero_add]
      walk_at "go"
      have h1 : ns[ss.length]? = some ns[ss.length] := List.getElem?_eq_getElem (by omega)
      refine wo_of (atI_lit (get_map h1)) ?_
      walk_at "go"
      have m1 := Int.emod_nonneg ((ss.length : Int) + 1) (show size ≠ 0 by omega)
      have m2 := Int.emod_lt_of_pos ((ss.length : Int) + 1) hz.1
      generalize ((ss.length : Int) + 1) % size = w at m1 m2
      have h2 : ns[w.toNat]? = some ns[w.toNat] := List.getElem?_eq_getElem (by omega)
      refine wo_of (atI_map m1 h2) ?_
      walk_at "go"
      refine (draw_ok J (by omega) (by omega)).mono ?_
      rintro d M' ⟨v, rfl, v0, v1, J'⟩
      walk_at "go"
      refine wo_scale hs (by omega) ?_
      walk_at "go"
      refine (draw_ok J' (by omega) (by omega)).mono ?_
      rintro d M' ⟨v', rfl, v0', v1', J''⟩
      walk_at "go"
      refine ⟨_, rfl, sz_lt' (by rw [List.length_map]; omega), ?_⟩
      walk_at "go"
      refine ⟨ss ++ [(ns[ss.length], ns[w.toNat], (v - 10) * scale + v')], M', _, by rw [List.map_append]; rfl, by rw [List.length_append]; rfl, ?_, J''.mono (by rw [Int.natCast_add]; omega)⟩
      intro t ht
      rw [List.mem_append, List.mem_singleton] at ht
      rcases ht with h | rfl
      · exact hb2 t h
      · exact ⟨hb _ (List.mem_of_getElem? h1), hb _ (List.mem_of_getElem? h2)⟩
    · rintro s2 ⟨ss, M, x, rfl, hl2, hb2, J⟩
      rw [rngL_len] at hl2 J
      walk_at "go"
      exact ⟨ss, rfl, by omega, hb2, J.mono (by omega)⟩
set_option maxHeartbeats 2000000 in
theorem others_ok {k : Nat} {n many scale : Int} {M : List MO} {ss : List T3} (J : Jar n M) (hn : n < 900000) (hm : 0 < many) (hz : 0 < ss.length) (hb : ∀ t ∈ ss, okT many t) (hs : okS scale) : wC (callD T (k + 2)) "_law_others" [.adr 0, .lst (ss.map e3), .int many, .int scale] M fun d M' => ∃ os : List T3, d = .lst (os.map e3) ∧ os.length < 5 ∧ (∀ t ∈ os, okT many t) ∧ Jar (n + 1000) M' := by
  refine wc_fn rfl rfl rfl ?_
  show wB _ bf_law_others ([.val (.adr 0), .val (.lst (ss.map e3)), .val (.int many), .val (.int scale), .none, .none, .none, .none, .none, .none], _) _
  unfold bf_law_others
  walk_at "go"
  refine ⟨_, rfl, by show 4 < 10; decide, ?_⟩
  walk_at "go"
  refine (draw_ok J (by omega) (by omega)).mono ?_
  rintro d M' ⟨z, rfl, z0, z1, J⟩
  walk_at "go"
  refine ⟨_, rfl, smallI_ok (by omega), ?_⟩
  refine ⟨fun i s => ∃ (os : List T3) (M : List MO) (x1 x2 x3 x4 x5 : SV), s = ([.val (.adr 0), .val (.lst (ss.map e3)), .val (.int many), .val (.int scale), .own (os.map e3), x1, x2, x3, x4, x5], M) ∧ os.length = i ∧ (∀ t ∈ os, okT many t) ∧ Jar (n + 1 + 10 * i) M, ⟨[], M', _, _, _, _, _, rfl, rfl, fun _ h => absurd h List.not_mem_nil, J.mono (by omega)⟩, ?_, ?_⟩
  · rintro i x s2 hx ⟨os, M, x1, x2, x3, x4, x5, rfl, rfl, hb2, J⟩
    obtain ⟨hlt, rfl⟩ := rngL_get hx
    walk_at "go"
    rw [List.length_map]
    refine (draw_ok J (by omega) (by omega)).mono ?_
    rintro d M1 ⟨v, rfl, v0, v1, J1⟩
    have h1 : ss[v.toNat]? = some ss[v.toNat] := List.getElem?_eq_getElem (by omega)
    have ht := hb _ (List.mem_of_getElem? h1)
    refine wo_of (atI_map v0 h1) ?_
    generalize ss[v.toNat] = t at ht
    obtain ⟨a, b, c⟩ := t
    walk_at "go"
    refine (draw_ok J1 (by omega) (by omega)).mono ?_
    rintro d M2 ⟨kd, rfl, k0, k1, J2⟩
    have fin : ∀ {Q : Out → DS → Prop} (a b : Int) (s : SV) (M : List MO), okT many (a, b, 0) → Jar (n + 1 + 10 * os.length + 6) M → (∀ (os' : List T3) M, os'.length = os.length + 1 → (∀ t ∈ os', okT many t) → Jar (n + 1 + 10 * (os.length + 1 : Nat)) M → Q .nx ([.val (.adr 0), .val (.lst (ss.map e3)), .val (.int many), .val (.int scale), .own (os'.map e3), .val (.int (0 + os.length)), s, .val (.int a), .val (.int b), .val (.int c)], M)) → wB (callD T (k + 1)) [(.app 4 (.tup [(.var 7), (.var 8), (.bin .add (.var 9) (.bin .mul (.bin .sub (.call "_law_draw" [(.var 0), (.int 9)]) (.int 4)) (.var 3)))]))] ([.val (.adr 0), .val (.lst (ss.map e3)), .val (.int many), .val (.int scale), .own (os.map e3), .val (.int (0 + os.length)), s, .val (.int a), .val (.int b), .val (.int c)], M) Q := by
      intro Q a b s M hab J hQ
      walk_at "go"
      refine (draw_ok J (by omega) (by omega)).mono ?_
      rintro d M' ⟨v, rfl, v0, v1, J'⟩
      walk_at "go"
      refine wo_scale hs (by omega) ?_
      walk_at "go"
      refine ⟨_, rfl, sz_lt' (by rw [List.length_map]; omega), ?_⟩
      walk_at "go"
      have hh := hQ (os ++ [(a, b, c + (v - 4) * scale)]) M' (by rw [List.length_append]; rfl) (by
        intro t ht
        rw [List.mem_append, List.mem_singleton] at ht
        rcases ht with h | rfl
        · exact hb2 t h
        · exact hab) (J'.mono (by rw [Int.natCast_add]; omega))
      rw [List.map_append] at hh
      exact wb_nil hh
    have fin2 : ∀ (s : SV) (a b : Int) (os' : List T3) (M : List MO), os'.length = os.length + 1 → (∀ t ∈ os', okT many t) → Jar (n + 1 + 10 * (os.length + 1 : Nat)) M → ∃ (os2 : List T3) (M2 : List MO) (x1 x2 x3 x4 x5 : SV), (([.val (.adr 0), .val (.lst (ss.map e3)), .val (.int many), .val (.int scale), .own (os'.map e3), .val (.int (0 + os.length)), s, .val (.int a), .val (.int b), .val (.int c)], M) : DS) = ([.val (.adr 0), .val (.lst (ss.map e3)), .val (.int many), .val (.int scale), .own (os2.map e3), x1, x2, x3, x4, x5], M2) ∧ os2.length = os.length + 1 ∧ (∀ t ∈ os2, okT many t) ∧ Jar (n + 1 + 10 * (os.length + 1 : Nat)) M2 := fun s a b os' M h1 h2 h3 => ⟨os', M, _, _, _, _, _, rfl, h1, h2, h3⟩
    walk_at "gs"
    refine wb_cons ?_
    walk_at "gs"
    by_cases e1 : kd = 1
    · subst e1
      refine wif_p rfl ?_
      walk_at "go"
      refine (draw_ok J2 (by omega) (by omega)).mono ?_
      rintro d M3 ⟨v, rfl, v0, v1, J3⟩
      walk_at "gs"
      refine wb_cons ?_
      walk_at "gs"
      exact fin _ _ _ _ ⟨ht.1, Int.emod_nonneg _ (by omega), Int.le_of_lt_add_one (Int.emod_lt_of_pos _ (by omega))⟩ (J3.mono (by omega)) (fin2 _ _ _)
    · refine wif_n e1 ?_
      walk_at "gs"
      refine wb_cons ?_
      walk_at "gs"
      refine wif_d (fun e2 => ?_) (fun e2 => ?_)
      · walk_at "go"
        refine (draw_ok J2 (by omega) (by omega)).mono ?_
        rintro d M3 ⟨v, rfl, v0, v1, J3⟩
        walk_at "go"
        refine (draw_ok J3 (by omega) (by omega)).mono ?_
        rintro d M4 ⟨v', rfl, v0', v1', J4⟩
        walk_at "gs"
        exact fin _ _ _ _ ⟨⟨v0, Int.le_of_lt_add_one v1⟩, v0', Int.le_of_lt_add_one v1'⟩ (J4.mono (by omega)) (fin2 _ _ _)
      · walk_at "gs"
        exact fin _ _ _ _ ht (J2.mono (by omega)) (fin2 _ _ _)
  · rintro s2 ⟨os, M, x1, x2, x3, x4, x5, rfl, hl2, hb2, J⟩
    rw [rngL_len] at hl2 J
    walk_at "go"
    exact ⟨os, rfl, by omega, hb2, J.mono (by omega)⟩
local macro_rules | `(tactic| walk_at "d3") => `(tactic| first
  | ((with_reducible show ∃ i : Int, _ = D.int i ∧ _); refine ⟨_, rfl, ?_⟩)
  | ((with_reducible show ∃ ds : List D, R.fl _ = R.fl ds ∧ _); refine ⟨_, rfl, by simp only [List.length_set, List.length_cons, List.length_nil]; decide, ?_⟩))
/-- xs: ints, at most n of them -/
def IsL (n : Nat) (xs : List D) : Prop := ∃ r : List Int, xs = r.map D.int ∧ r.length ≤ n
theorem isL_map (r : List Int) : IsL r.length (r.map D.int) := ⟨r, rfl, Nat.le_refl _⟩
theorem isL_one (v : Int) : IsL 1 [.int v] := ⟨[v], rfl, Nat.le_refl _⟩
theorem isL_nil : IsL 0 [] := ⟨[], rfl, Nat.le_refl _⟩
theorem IsL.mono {n m : Nat} {xs : List D} (h : IsL n xs) (k : n ≤ m) : IsL m xs := let ⟨r, e, l⟩ := h; ⟨r, e, Nat.le_trans l k⟩
theorem IsL.cut {n : Nat} {xs : List D} (h : IsL n xs) (lo hi : Option Int) : IsL n (cutD xs lo hi) := by
  obtain ⟨r, rfl, l⟩ := h
  refine ⟨_, cutD_map r lo hi, ?_⟩
  unfold cutG
  rw [List.length_take, List.length_drop]
  omega
theorem IsL.cat {n m : Nat} {xs ys : List D} (h : IsL n xs) (k : IsL m ys) : IsL (n + m) (xs ++ ys) := by
  obtain ⟨r, rfl, l⟩ := h
  obtain ⟨t, rfl, l2⟩ := k
  exact ⟨r ++ t, by rw [List.map_append], by rw [List.length_append]; omega⟩
theorem IsL.rev {n : Nat} {xs : List D} (h : IsL n xs) : IsL n xs.reverse := by
  obtain ⟨r, rfl, l⟩ := h
  exact ⟨r.reverse, by rw [List.map_reverse], by rw [List.length_reverse]; exact l⟩
theorem IsL.len {n : Nat} {xs : List D} (h : IsL n xs) : xs.length ≤ n := by
  obtain ⟨r, rfl, l⟩ := h
  rw [List.length_map]
  exact l
def IsR (d : D) : Prop := ∃ xs, d = .lst xs ∧ IsL 1000 xs
theorem IsL.row {n : Nat} {xs : List D} (h : IsL n xs) (k : n ≤ 1000 := by omega) : IsR (.lst xs) := ⟨xs, rfl, h.mono k⟩
theorem wo_catL {n m : Nat} {xs ys : List D} {Q : R → Prop} (h : IsL n xs) (k : IsL m ys) (hl : n + m < 1000 := by omega) (q : Q (.fl (xs ++ ys))) : wO (binD .add (.lst xs) (.lst ys)) Q :=
  wo_cat (sz_le' (by have := h.len; have := k.len; omega)) q
def AllR (ds : List D) : Prop := ∀ x ∈ ds, IsR x
theorem AllR.nil : AllR [] := fun _ h => absurd h List.not_mem_nil
theorem AllR.cons {d : D} {ds : List D} (h : IsR d) (k : AllR ds) : AllR (d :: ds) := fun x hx => by
  rcases List.mem_cons.mp hx with rfl | h2
  · exact h
  · exact k x h2
theorem AllR.snoc {d : D} {ds : List D} (k : AllR ds) (h : IsR d) : AllR (ds ++ [d]) := fun x hx => by
  rcases List.mem_append.mp hx with h2 | h2
  · exact k x h2
  · rw [List.mem_singleton.mp h2]
    exact h
set_option maxHeartbeats 2000000 in
theorem rows_ok {k : Nat} {n count : Int} {M : List MO} {ns : List Int} (J : Jar n M) (hn : n < 900000) (hc : 0 < count) (hz : 0 < ns.length) (hz2 : ns.length < 100) : wC (callD T (k + 2)) "_law_rows" [.adr 0, .lst (ns.map D.int), .int count] M fun d M' => ∃ ds : List D, d = .lst ds ∧ AllR ds ∧ Jar (n + 1000) M' := by
  refine wc_fn rfl rfl rfl ?_
  show wB _ bf_law_rows ([.val (.adr 0), .val (.lst (ns.map D.int)), .val (.int count), .none, .none, .none, .none, .none], _) _
  unfold bf_law_rows
  have c0 : ∀ lo hi, IsL ns.length (cutD (ns.map D.int) lo hi) := fun lo hi => (isL_map ns).cut lo hi
  have fin : ∀ {turn place : SV} (R0 : List D) (M : List MO), AllR R0 → R0.length < 100 → Jar (n + 1 + 1 + 1) M → wB (callD T (k + 1)) [(.app 6 (.comp (.nm 7) (.rng1 (.bin .add (.int 1) (.call "_law_draw" [(.var 0), (.int 3)]))) none (.bin .sub (.call "_law_draw" [(.var 0), (.bin .add (.var 2) (.int 4))]) (.int 2)) [("k", 7)])), (.ret (.var 6))] ([.val (.adr 0), .val (.lst (ns.map D.int)), .val (.int count), .val (.int ns.length), turn, place, .own R0, .none], M) (retQ fun d M' => ∃ ds : List D, d = .lst ds ∧ AllR ds ∧ Jar (n + 1000) M') := by
    intro turn place R0 M hR hl J3
    walk_at "go"
    refine (draw_ok J3 (by omega) (by omega)).mono ?_
    rintro d M4 ⟨w, rfl, w0, w1, J4⟩
    walk_at "go"
    refine ⟨smallI_ok (by omega), ?_⟩
    refine ⟨fun i acc s => ∃ (M : List MO), IsL i acc ∧ s = ([.val (.adr 0), .val (.lst (ns.map D.int)), .val (.int count), .val (.int ns.length), turn, place, .own R0, .none], M) ∧ Jar (n + 5 + i) M, ⟨M4, isL_nil, rfl, J4.mono (by omega)⟩, ?_, ?_⟩
    · rintro i x acc s2 hx ⟨M, hI, rfl, J⟩
      obtain ⟨hlt, rfl⟩ := rngL_get hx
      walk_at "go"
      refine (draw_ok J (by omega) (by omega)).mono ?_
      rintro d M' ⟨v, rfl, v0, v1, J'⟩
      walk_at "go"
      exact ⟨sz_lt' (by have := hI.len; omega), M', hI.cat (isL_one _), rfl, J'.mono (by omega)⟩
    · rintro acc s2 ⟨M, hI, rfl, J⟩
      rw [rngL_len] at hI J
      refine ⟨_, rfl, sz_lt' (by omega), ?_⟩
      walk_at "go"
      exact ⟨_, rfl, hR.snoc (hI.row (by omega)), J.mono (by omega)⟩
  walk_at "go"
  rw [List.length_map]
  refine (draw_ok J (by omega) (by omega)).mono ?_
  rintro d M1 ⟨turn, rfl, t0, t1, J1⟩
  walk_at "go"
  refine (draw_ok J1 (by omega) (by omega)).mono ?_
  rintro d M2 ⟨place, rfl, p0, p1, J2⟩
  walk_at "go"
  refine wo_catL (c0 _ _) (c0 _ _) (by omega) ?_
  walk_at "go"
  refine wo_catL (isL_map ns) (isL_map ns) (by omega) ?_
  walk_at "go"
  refine wo_catL (c0 _ _) (c0 _ _) (by omega) ?_
  walk_at "go"
  refine ⟨_, rfl, sz_lt' (by simp only [List.length_append, List.length_cons, List.length_nil]; decide), ?_⟩
  walk_at "go"
  refine (draw_ok J2 (by omega) hc).mono ?_
  rintro d M3 ⟨v, rfl, v0, v1, J3⟩
  walk_at "go"
  refine wo_catL (c0 _ _) (isL_one _) (by omega) ?_
  walk_at "go"
  refine wo_catL ((c0 _ _).cat (isL_one _)) (c0 _ _) (by omega) ?_
  walk_at "go"
  refine ⟨_, rfl, sz_lt' (by simp only [List.length_append, List.length_cons, List.length_nil]; decide), ?_⟩
  walk_at "go"
  have h1 : ns[place.toNat]? = some ns[place.toNat] := List.getElem?_eq_getElem (by omega)
  refine wo_of (atI_map p0 h1) ?_
  walk_at "go"
  refine wo_catL (c0 _ _) (isL_one _) (by omega) ?_
  walk_at "go"
  refine wo_catL ((c0 _ _).cat (isL_one _)) (c0 _ _) (by omega) ?_
  walk_at "go"
  refine ⟨_, rfl, sz_lt' (by simp only [List.length_append, List.length_cons, List.length_nil]; decide), ?_⟩
  walk_at "go"
  refine wo_of (atI_map p0 h1) ?_
  walk_at "go"
  refine wo_catL (c0 _ _) (isL_one _) (by omega) ?_
  walk_at "go"
  refine wo_catL ((c0 _ _).cat (isL_one _)) (c0 _ _) (by omega) ?_
  walk_at "go"
  refine ⟨_, rfl, sz_lt' (by simp only [List.length_append, List.length_cons, List.length_nil]; decide), ?_⟩
  walk_at "gs"
  refine fin _ _ ?_ (by simp only [List.length_append, List.length_cons, List.length_nil]; decide) J3
  have r1 : IsR (.lst (cutD (ns.map D.int) none (some place) ++ cutD (ns.map D.int) (some (place + 1)) none)) := ((c0 _ _).cat (c0 _ _)).row
  have r2 : ∀ v, IsR (.lst (cutD (ns.map D.int) none (some place) ++ [.int v] ++ cutD (ns.map D.int) (some (place + 1)) none)) := fun v => (((c0 _ _).cat (isL_one v)).cat (c0 _ _)).row
  refine AllR.snoc (AllR.snoc (AllR.snoc (AllR.snoc ?_ r1) (r2 _)) (r2 _)) (r2 _)
  exact AllR.cons (isL_map ns).row (AllR.cons ((c0 _ _).cat (c0 _ _)).row (AllR.cons ((isL_map ns).cat (isL_map ns)).row (AllR.cons (isL_map ns).rev.row (AllR.cons (c0 _ _).row (AllR.cons isL_nil.row AllR.nil)))))
theorem intsD_map : ∀ ns : List Int, intsD (ns.map D.int) = some ns
  | [] => rfl
  | n :: r => by
    show (intsD (r.map D.int)).map _ = _
    rw [intsD_map r]
    rfl
theorem atI_last {xs : List D} {d : D} (h0 : 0 < xs.length) (h : xs[xs.length - 1]? = some d) : atI xs (-1) = some d := by
  unfold atI ixN
  rw [if_neg (by decide), if_pos (by omega)]
  show xs[(-1 + (xs.length : Int)).toNat]? = _
  rw [show (-1 + (xs.length : Int)).toNat = xs.length - 1 by omega]
  exact h
theorem cutG_init {α : Type} (xs : List α) (h : 0 < xs.length) : cutG xs none (some (-1)) = xs.take (xs.length - 1) := by
  unfold cutG
  show (xs.drop 0).take ((if (-1 : Int) < 0 then (-1 + (xs.length : Int)).toNat else min (-1 : Int).toNat xs.length) - 0) = _
  rw [if_pos (by decide)]
  rw [List.drop_zero, show (-1 + (xs.length : Int)).toNat - 0 = xs.length - 1 by omega]
set_option maxHeartbeats 2000000 in
theorem closed_ok {k : Nat} {total many : Int} {M : List MO} {ss : List T3} (hz : 0 < ss.length) (hz2 : ss.length < 1000) (hb : ∀ t ∈ ss, okT many t) : wC (callD T (k + 1)) "_law_closed" [.lst (ss.map e3), .int total] M fun d M' => (∃ cs : List T3, d = .lst (cs.map e3) ∧ cs.length = ss.length ∧ ∀ t ∈ cs, okT many t) ∧ M' = M := by
  refine wc_fn rfl rfl rfl ?_
  show wB _ bf_law_closed ([.val (.lst (ss.map e3)), .val (.int total), .none, .none], _) _
  unfold bf_law_closed
  have hcut : cutD (ss.map e3) none (some (-1)) = (ss.take (ss.length - 1)).map e3 := by rw [cutD_map, cutG_init _ hz]
  obtain ⟨z, hll⟩ : ∃ z, ss[ss.length - 1]? = some z := ⟨_, List.getElem?_eq_getElem (by omega)⟩
  have hat : atI (ss.map e3) (-1) = some (e3 z) := atI_last (by rw [List.length_map]; exact hz) (by rw [List.length_map]; exact get_map hll)
  have htl : (ss.take (ss.length - 1)).length = ss.length - 1 := by rw [List.length_take]; omega
  walk_at "go"
  rw [hcut]
  refine ⟨fun i acc s => ∃ ns : List Int, acc = ns.map D.int ∧ s = ([.val (.lst (ss.map e3)), .val (.int total), .none, .none], M) ∧ ns.length = i, ⟨[], rfl, rfl, rfl⟩, ?_, ?_⟩
  · rintro i x acc s2 hx ⟨ns, rfl, rfl, rfl⟩
    obtain ⟨t, ht, rfl⟩ := map_get hx
    have := get_lt ht
    obtain ⟨a, b, c⟩ := t
    walk_at "go"
    exact ⟨sz_lt' (by rw [List.length_map]; omega), ns ++ [c], by rw [List.map_append]; rfl, rfl, by rw [List.length_append]; rfl⟩
  · rintro acc s2 ⟨ns, rfl, rfl, hl⟩
    refine wo_of (z := .v (.int ns.sum)) (by show (intsD (ns.map D.int)).map _ = _; rw [intsD_map]; rfl) ?_
    walk_at "go"
    refine wo_of hat ?_
    obtain ⟨a, b, c⟩ := z
    walk_at "go"
    refine wo_of hat ?_
    walk_at "go"
    rw [hcut]
    refine wo_cat (sz_le' (by rw [List.length_map, htl]; simp only [List.length_cons, List.length_nil]; omega)) ?_
    walk_at "go"
    refine ⟨⟨ss.take (ss.length - 1) ++ [(a, b, total - ns.sum)], by rw [List.map_append]; rfl, by rw [List.length_append, htl]; simp only [List.length_cons, List.length_nil]; omega, ?_⟩, rfl⟩
    intro t ht
    rcases List.mem_append.mp ht with h2 | h2
    · exact hb t (List.mem_of_mem_take h2)
    · rw [List.mem_singleton.mp h2]
      exact (hb _ (List.mem_of_getElem? hll) : okT many (a, b, c))
theorem ndx_go (v : Int) : ∀ (ps : List Int) (b : Nat), v ∈ ps → ∃ j, ndxAt (.int v) ((ps.map D.int).map D.toV) b = some j ∧ b ≤ j ∧ j < b + ps.length
  | [], b, h => absurd h List.not_mem_nil
  | p :: ps, b, h => by
    by_cases e : p = v
    · subst e
      refine ⟨b, ?_, Nat.le_refl _, by rw [List.length_cons]; omega⟩
      show (if eqV (.int p) (.int p) then some b else _) = _
      rw [if_pos (by simp [eqV])]
    · rcases List.mem_cons.mp h with h2 | h2
      · exact absurd h2.symm e
      obtain ⟨j, h3, h4, h5⟩ := ndx_go v ps (b + 1) h2
      refine ⟨j, ?_, by omega, by rw [List.length_cons]; omega⟩
      show (if eqV (.int p) (.int v) then some b else _) = _
      rw [if_neg (by simpa [eqV] using e)]
      exact h3
theorem flat_ints (ps : List Int) : (ps.map D.int).all D.flat = true := by
  rw [List.all_eq_true]
  intro x hx
  obtain ⟨v, _, rfl⟩ := List.mem_map.mp hx
  rfl
theorem ndx_ok {v : Int} {ps : List Int} (h : v ∈ ps) : ∃ j : Nat, ndxD (.lst (ps.map D.int)) (.int v) = some (.int (j : Int)) ∧ j < ps.length := by
  obtain ⟨j, h1, h2, h3⟩ := ndx_go v ps 0 h
  refine ⟨j, ?_, by omega⟩
  show (if (D.flat (.int v) && (ps.map D.int).all D.flat) = true then (ndxAt (.int v) ((ps.map D.int).map D.toV) 0).map (fun (j : Nat) => D.int (j : Int)) else none) = _
  rw [flat_ints, if_pos (show ((D.int v).flat && true) = true from rfl), h1]
  rfl
def rngI (n : Nat) : List Int := (List.range n).map fun (i : Nat) => ((0 : Int) + (i : Nat) : Int)
theorem rng_map (n : Nat) : rngL 0 n = (rngI n).map D.int := by
  unfold rngL rngI
  rw [List.map_map]
  rfl
theorem rngI_len (n : Nat) : (rngI n).length = n := by
  unfold rngI
  rw [List.length_map, List.length_range]
theorem mem_rngI {n : Nat} {v : Int} : v ∈ rngI n ↔ 0 ≤ v ∧ v < n := by
  unfold rngI
  rw [List.mem_map]
  constructor
  · rintro ⟨i, h, rfl⟩
    have := List.mem_range.mp h
    omega
  · rintro ⟨h0, h1⟩
    exact ⟨v.toNat, List.mem_range.mpr (by omega), by omega⟩
set_option maxHeartbeats 4000000 in
theorem chains_ok {k : Nat} {n many scale : Int} {M : List MO} (J : Jar n M) (hn : n < 100) (hm : 0 < many ∧ many < 100) (hs : okS scale) : wC (callD T (k + 4)) "_law_chains_told" [.adr 0, .int many, .int scale] M fun d M' => d = .bl true ∧ Jar (n + 100000) M' := by
  refine wc_fn rfl rfl rfl ?_
  show wB _ bf_law_chains_told ([.val (.adr 0), .val (.int many), .val (.int scale), .none, .none, .none, .none, .none, .none, .none, .none, .none, .none, .none], _) _
  unfold bf_law_chains_told
  walk_at "go"
  refine (draw_ok J (by omega) (by omega)).mono ?_
  rintro d M1 ⟨z, rfl, z0, z1, J⟩
  walk_at "go"
  refine (walk_ok J (by omega) hm.1 (by omega) hs).mono ?_
  rintro d M2 ⟨ss, rfl, hsl, hsb, J⟩
  walk_at "go"
  refine (others_ok J (by omega) hm.1 (by omega) hsb hs).mono ?_
  rintro d M3 ⟨os, rfl, hol, hob, J⟩
  walk_at "go"
  rw [List.length_map, List.length_map]
  refine ⟨by omega, ?_⟩
  walk_at "go"
  rw [rng_map]
  refine (mixed_ok J (by omega) (by rw [rngI_len]; omega)).mono ?_
  rintro d M4 ⟨ps, rfl, hp, J⟩
  have hpl : ps.length = ss.length + os.length := by rw [hp.length_eq, rngI_len]; omega
  have hpm : ∀ v, v ∈ ps ↔ 0 ≤ v ∧ v < (ss.length + os.length : Nat) := fun v => by rw [hp.mem_iff, mem_rngI]; omega
  clear hp
  walk_at "go"
  rw [List.length_map]
  refine ⟨smallI_ok (by omega), ?_⟩
  refine ⟨fun i acc s => ∃ ns : List Int, acc = ns.map D.int ∧ ns.length = i ∧ s = ([.val (.adr 0), .val (.int many), .val (.int scale), .val (.lst (ss.map e3)), .val (.lst (os.map e3)), .val (.lst (ps.map D.int)), .none, .none, .none, .none, .none, .none, .none, .none], M4), ⟨[], rfl, rfl, rfl⟩, ?_, ?_⟩
  · rintro i x acc s2 hx ⟨ns, rfl, rfl, rfl⟩
    obtain ⟨hlt, rfl⟩ := rngL_get hx
    walk_at "go"
    obtain ⟨j, hj, hj2⟩ := ndx_ok ((hpm (0 + (ns.length : Int))).mpr ⟨by omega, by omega⟩)
    refine wo_of hj ?_
    walk_at "go"
    exact ⟨sz_lt' (by rw [List.length_map]; omega), ns ++ [(j : Int)], by rw [List.map_append]; rfl, by rw [List.length_append]; rfl, rfl⟩
  · rintro acc s2 ⟨ns, rfl, hnl, rfl⟩
    rw [rngL_len] at hnl
    walk_at "go"
    rw [List.length_map]
    refine (rows_ok J (by omega) (by omega) (by omega) (by omega)).mono ?_
    rintro d M5 ⟨rs, rfl, hrs, J⟩
    walk_at "go"
    refine (draw_ok J (by omega) (by omega)).mono ?_
    rintro d M6 ⟨v, rfl, v0, v1, J⟩
    walk_at "go"
    refine wo_scale hs (by omega) ?_
    walk_at "go"
    refine ⟨fun i s => ∃ (x8 x9 x10 x11 x12 : SV) (M : List MO), s = ([.val (.adr 0), .val (.int many), .val (.int scale), .val (.lst (ss.map e3)), .val (.lst (os.map e3)), .val (.lst (ps.map D.int)), .val (.lst (ns.map D.int)), .val (.lst rs), x8, x9, x10, x11, x12, .none], M) ∧ Jar (n + 10000 + 1000 * i) M, ⟨_, _, _, _, _, _, rfl, J.mono (by omega)⟩, ?_, ?_⟩
    · rintro i x s2 hx ⟨x8, x9, x10, x11, x12, M, rfl, J⟩
      have hx' : ∃ v, x = .int v := by
        match i, hx with
        | 0, h => exact ⟨_, by cases h; rfl⟩
        | 1, h => exact ⟨_, by cases h; rfl⟩
        | 2, h => exact ⟨_, by cases h; rfl⟩
      have hi3 := get_lt hx
      simp only [List.length_cons, List.length_nil] at hi3
      obtain ⟨total, rfl⟩ := hx'
      clear hx
      walk_at "go"
      refine (closed_ok (by omega) (by omega) hsb).mono ?_
      rintro d M' ⟨⟨cs, rfl, hcl, hcb⟩, rfl⟩
      walk_at "go"
      refine wo_cat (sz_le' (by rw [List.length_map, List.length_map]; omega)) ?_
      rw [← List.map_append]
      have hab : ∀ t ∈ cs ++ os, okT many t := fun t ht => (List.mem_append.mp ht).elim (hcb t) (hob t)
      have hal : (cs ++ os).length = ss.length + os.length := by rw [List.length_append, hcl]
      generalize cs ++ os = as at hab hal
      clear hcb hcl
      walk_at "go"
      refine ⟨fun i acc s => ∃ ds : List T3, acc = ds.map e3 ∧ ds.length = i ∧ (∀ t ∈ ds, okT many t) ∧ s = ([.val (.adr 0), .val (.int many), .val (.int scale), .val (.lst (ss.map e3)), .val (.lst (os.map e3)), .val (.lst (ps.map D.int)), .val (.lst (ns.map D.int)), .val (.lst rs), .val (.int total), .val (.lst (as.map e3)), x10, x11, x12, .none], M'), ⟨[], rfl, rfl, fun _ h => absurd h List.not_mem_nil, rfl⟩, ?_, ?_⟩
      · rintro j x acc s2 hx ⟨ds, rfl, rfl, hdb, rfl⟩
        obtain ⟨v, hv, rfl⟩ := map_get hx
        have hb := (hpm v).mp (List.mem_of_getElem? hv)
        have h1 : as[v.toNat]? = some as[v.toNat] := List.getElem?_eq_getElem (by omega)
        have := get_lt hv
        walk_at "go"
        refine wo_of (atI_map hb.1 h1) ?_
        walk_at "go"
        refine ⟨sz_lt' (by rw [List.length_map]; omega), ds ++ [as[v.toNat]], by rw [List.map_append]; rfl, by rw [List.length_append]; rfl, ?_, rfl⟩
        intro t ht
        rcases List.mem_append.mp ht with h2 | h2
        · exact hdb t h2
        · rw [List.mem_singleton.mp h2]
          exact hab _ (List.mem_of_getElem? h1)
      · rintro acc s2 ⟨ds, rfl, hdl, hdb, rfl⟩
        walk_at "go"
        refine ⟨fun j s => ∃ (x11 : SV), s = ([.val (.adr 0), .val (.int many), .val (.int scale), .val (.lst (ss.map e3)), .val (.lst (os.map e3)), .val (.lst (ps.map D.int)), .val (.lst (ns.map D.int)), .val (.lst rs), .val (.int total), .val (.lst (as.map e3)), .val (.lst (ds.map e3)), x11, x12, .none], M'), ⟨_, rfl⟩, ?_, ?_⟩
        · rintro j x s2 hx ⟨x11, rfl⟩
          obtain ⟨xs, rfl, r, rfl, hr⟩ := hrs _ (List.mem_of_getElem? hx)
          walk_at "go"
          refine (numbers_ok (by omega)).mono ?_
          rintro d M2 ⟨rfl, rfl⟩
          walk_at "go"
          exact ⟨_, rfl⟩
        · rintro s2 ⟨x11, rfl⟩
          walk_at "go"
          refine ⟨smallI_ok (by omega), ?_⟩
          refine ⟨fun j acc s => ∃ (vs : List Int) (M : List MO), acc = vs.map D.int ∧ vs.length = j ∧ s = ([.val (.adr 0), .val (.int many), .val (.int scale), .val (.lst (ss.map e3)), .val (.lst (os.map e3)), .val (.lst (ps.map D.int)), .val (.lst (ns.map D.int)), .val (.lst rs), .val (.int total), .val (.lst (as.map e3)), .val (.lst (ds.map e3)), x11, x12, .none], M) ∧ Jar (n + 10000 + 1000 * i + j) M, ⟨[], M', rfl, rfl, rfl, J.mono (by omega)⟩, ?_, ?_⟩
          · rintro j x acc s2 hx ⟨vs, M, rfl, rfl, rfl, J⟩
            obtain ⟨hlt, rfl⟩ := rngL_get hx
            walk_at "go"
            refine (draw_ok J (by omega) (by omega)).mono ?_
            rintro d M' ⟨v, rfl, v0, v1, J'⟩
            walk_at "go"
            refine wo_scale hs (by omega) ?_
            exact ⟨sz_lt' (by rw [List.length_map]; omega), vs ++ [(v - 10) * scale], M', by rw [List.map_append]; rfl, by rw [List.length_append]; rfl, rfl, J'.mono (by omega)⟩
          · rintro acc s2 ⟨vs, M, rfl, hvl, rfl, J⟩
            rw [rngL_len] at hvl J
            walk_at "go"
            refine (values_ok (by omega) (fun t ht => ?_)).mono ?_
            · have := hdb t ht
              unfold okT at this
              unfold inV
              omega
            rintro d M2 ⟨rfl, rfl⟩
            walk_at "go"
            exact ⟨_, _, _, _, _, _, rfl, J.mono (by omega)⟩
    · rintro s2 ⟨x8, x9, x10, x11, x12, M, rfl, J⟩
      simp only [List.length_cons, List.length_nil] at J
      walk_at "go"
      exact ⟨rfl, J.mono (by omega)⟩
theorem at_slack {v : Int} (h : 0 ≤ v ∧ v < 4) : ∃ c, atI [D.int 0, D.int 0, D.int 1, D.int 5] v = some (D.int c) := by
  have : v = 0 ∨ v = 1 ∨ v = 2 ∨ v = 3 := by omega
  rcases this with rfl | rfl | rfl | rfl <;> exact ⟨_, rfl⟩
theorem okS_big : okS (10 ^ (30 : Int).toNat) := by unfold okS; decide
theorem at_scale {v : Int} (h : 0 ≤ v ∧ v < 4) : ∃ c, atI [D.int 1, D.int 1, D.int 5000, D.int (10 ^ (30 : Int).toNat)] v = some (D.int c) ∧ okS c := by
  have : v = 0 ∨ v = 1 ∨ v = 2 ∨ v = 3 := by omega
  rcases this with rfl | rfl | rfl | rfl
  · exact ⟨1, rfl, by unfold okS; decide⟩
  · exact ⟨1, rfl, by unfold okS; decide⟩
  · exact ⟨5000, rfl, by unfold okS; decide⟩
  · exact ⟨_, rfl, okS_big⟩
set_option maxHeartbeats 2000000 in
theorem around_ok {k : Nat} {n : Int} {M : List MO} {vs : List Int} (J : Jar n M) (hn : n < 900000) (hl : vs.length < 1000) : wC (callD T (k + 2)) "_law_around" [.adr 0, .lst (vs.map D.int)] M fun d M' => ∃ ds : List T3, d = .lst (ds.map e3) ∧ 0 < ds.length ∧ ds.length < 100 ∧ (∀ t ∈ ds, inV vs t) ∧ Jar (n + 1000) M' := by
  refine wc_fn rfl rfl rfl ?_
  show wB _ bf_law_around ([.val (.adr 0), .val (.lst (vs.map D.int)), .none, .none, .none, .none, .none, .none], _) _
  unfold bf_law_around
  walk_at "go"
  refine wo_cat (sz_le' (by rw [List.length_map]; simp only [List.length_cons, List.length_nil]; omega)) ?_
  walk_at "go"
  refine (draw_ok J (by omega) (by omega)).mono ?_
  rintro d M1 ⟨w, rfl, w0, w1, J1⟩
  walk_at "go"
  refine ⟨smallI_ok (by omega), ?_⟩
  refine ⟨fun i s => ∃ (ds : List T3) (x4 x5 x6 x7 : SV) (M : List MO), s = ([.val (.adr 0), .val (.lst (vs.map D.int)), .val (.lst (.int 0 :: vs.map D.int)), .own (ds.map e3), x4, x5, x6, x7], M) ∧ ds.length = i ∧ (∀ t ∈ ds, inV vs t) ∧ Jar (n + 1 + 10 * i) M, ⟨[], _, _, _, _, _, rfl, rfl, fun _ h => absurd h List.not_mem_nil, J1.mono (by omega)⟩, ?_, ?_⟩
  · rintro i x s2 hx ⟨ds, x4, x5, x6, x7, M, rfl, rfl, hb, J⟩
    obtain ⟨hlt, rfl⟩ := rngL_get hx
    have hlen : ((D.int 0 :: vs.map D.int).length : Int) = vs.length + 1 := by rw [List.length_cons, List.length_map]; rfl
    walk_at "go"
    refine (draw_ok J (by omega) (by first | omega | (simp only [List.length_append, List.length_cons, List.length_nil, List.length_map]; omega))).mono ?_
    rintro d M1 ⟨a, rfl, a0, a1, J1⟩
    walk_at "go"
    refine (draw_ok J1 (by omega) (by first | omega | (simp only [List.length_append, List.length_cons, List.length_nil, List.length_map]; omega))).mono ?_
    rintro d M2 ⟨b, rfl, b0, b1, J2⟩
    simp only [List.length_append, List.length_cons, List.length_nil, List.length_map] at a1 b1
    walk_at "go"
    refine (draw_ok J2 (by omega) (by omega)).mono ?_
    rintro d M3 ⟨c, rfl, c0, c1, J3⟩
    obtain ⟨sl, hsl⟩ := at_slack ⟨c0, c1⟩
    refine wo_of hsl ?_
    walk_at "go"
    refine wo_of (at_g0 (vs := vs) a0 (by omega)) ?_
    walk_at "go"
    refine wo_of (at_g0 (vs := vs) b0 (by omega)) ?_
    walk_at "go"
    refine ⟨_, rfl, sz_lt' (by rw [List.length_map]; omega), ?_⟩
    walk_at "go"
    refine ⟨ds ++ [(a, b, g0 vs a - g0 vs b + sl)], _, _, _, _, _, by rw [List.map_append]; rfl, by rw [List.length_append]; rfl, ?_, J3.mono (by rw [Int.natCast_add]; omega)⟩
    intro t ht
    rcases List.mem_append.mp ht with h2 | h2
    · exact hb t h2
    · rw [List.mem_singleton.mp h2]
      exact ⟨⟨a0, by show a ≤ _; omega⟩, b0, by show b ≤ _; omega⟩
  · rintro s2 ⟨ds, x4, x5, x6, x7, M, rfl, hdl, hb, J⟩
    rw [rngL_len] at hdl J
    walk_at "go"
    exact ⟨ds, rfl, by omega, by omega, hb, J.mono (by omega)⟩
theorem cutG_pre_len {α : Type} {xs : List α} {p : Int} (h : 0 ≤ p) (h2 : p < xs.length) : (cutG xs none (some p)).length = p.toNat := by
  unfold cutG
  show ((xs.drop 0).take ((if p < 0 then (p + (xs.length : Int)).toNat else min p.toNat xs.length) - 0)).length = _
  rw [if_neg (by omega), List.length_take, List.length_drop]
  omega
theorem cutG_suf_len {α : Type} {xs : List α} {p : Int} (h : 0 ≤ p) (h2 : p ≤ xs.length) : (cutG xs (some p) none).length = xs.length - p.toNat := by
  unfold cutG
  show ((xs.drop (if p < 0 then (p + (xs.length : Int)).toNat else min p.toNat xs.length)).take (xs.length - (if p < 0 then (p + (xs.length : Int)).toNat else min p.toNat xs.length))).length = _
  rw [if_neg (by omega), List.length_take, List.length_drop]
  omega
theorem mem_cutG {α : Type} {xs : List α} {lo hi : Option Int} {x : α} (h : x ∈ cutG xs lo hi) : x ∈ xs := List.mem_of_mem_drop (List.mem_of_mem_take h)
theorem inV.longer {vs ws : List Int} {t : T3} (h : inV vs t) (e : ws.length = vs.length) : inV ws t := by
  unfold inV at *
  rw [e]
  exact h
set_option maxHeartbeats 4000000 in
theorem law_w (ns : List Int) (hn : ns.length ≤ 63) : wC (callD T 20) "law" [.fls (ns.map D.int)] [] fun d _ => d = .bl true := by
  refine wc_fn rfl rfl rfl ?_
  show wB _ bf_law ([.val (.fls (ns.map D.int)), .none, .none, .none, .none, .none, .none, .none, .none, .none, .none, .none, .none, .none, .none, .none], _) _
  unfold bf_law
  walk_at "go"
  rw [List.length_map]
  refine ⟨_, rfl, ?_⟩
  walk_at "go"
  have J0 : Jar 0 [.lst [.int ((ns.length : Int) % 1000), .int 0, .lst (ns.map D.int)]] := ⟨_, _, ns, rfl, Int.emod_nonneg _ (by decide), by omega, by decide, by decide⟩
  refine (draw_ok J0 (by decide) (by decide)).mono ?_
  rintro d M1 ⟨w, rfl, w0, w1, J1⟩
  walk_at "go"
  refine (draw_ok J1 (by decide) (by decide)).mono ?_
  rintro d M2 ⟨w2, rfl, w20, w21, J2⟩
  obtain ⟨scale, hat, hs⟩ := at_scale ⟨w20, w21⟩
  refine wo_of hat ?_
  clear J0 J1 hat
  generalize hmany : 1 + w = many
  walk_at "go"
  refine (chains_ok J2 (by decide) (by omega) hs).mono ?_
  rintro d M3 ⟨rfl, J3⟩
  walk_at "go"
  refine ⟨smallI_ok (by omega), ?_⟩
  refine ⟨fun i acc s => ∃ (vs : List Int) (M : List MO), acc = vs.map D.int ∧ vs.length = i ∧ s = ([.val (.fls (ns.map D.int)), .val (.adr 0), .val (.int many), .val (.int scale), .none, .none, .none, .none, .none, .none, .none, .none, .none, .none, .none, .none], M) ∧ Jar (200000 + 2 * i) M, ⟨[], M3, rfl, rfl, rfl, J3.mono (by decide)⟩, ?_, ?_⟩
  · rintro i x acc s2 hx ⟨vs, M, rfl, rfl, rfl, J⟩
    obtain ⟨hlt, rfl⟩ := rngL_get hx
    walk_at "go"
    refine (draw_ok J (by omega) (by omega)).mono ?_
    rintro d M4 ⟨v, rfl, v0, v1, J4⟩
    walk_at "go"
    refine wo_scale hs (by omega) ?_
    walk_at "go"
    refine (draw_ok J4 (by omega) (by omega)).mono ?_
    rintro d M5 ⟨v', rfl, v0', v1', J5⟩
    walk_at "go"
    exact ⟨sz_lt' (by rw [List.length_map]; omega), vs ++ [(v - 10) * scale + v'], M5, by rw [List.map_append]; rfl, by rw [List.length_append]; rfl, rfl, J5.mono (by omega)⟩
  · rintro acc s2 ⟨vs, M, rfl, hvl, rfl, J⟩
    rw [rngL_len] at hvl J
    walk_at "go"
    refine (around_ok J (by omega) (by omega)).mono ?_
    rintro d M4 ⟨ds, rfl, hd0, hd1, hdv, J⟩
    walk_at "go"
    refine (values_ok (by omega) hdv).mono ?_
    rintro d M' ⟨rfl, rfl⟩
    walk_at "go"
    refine (values_ok (ds := []) (by omega) (fun t ht => absurd ht List.not_mem_nil)).mono ?_
    rintro d M'' ⟨rfl, rfl⟩
    walk_at "go"
    refine (draw_ok J (by omega) (by omega)).mono ?_
    rintro d M5 ⟨p, rfl, p0, p1, J5⟩
    walk_at "go"
    refine ⟨fun i s => ∃ (x7 x11 : SV), s = ([.val (.fls (ns.map D.int)), .val (.adr 0), .val (.int many), .val (.int scale), .val (.lst (vs.map D.int)), .val (.lst (ds.map e3)), .val (.int p), x7, .none, .none, .none, x11, .none, .none, .none, .none], M5), ⟨_, _, rfl⟩, ?_, ?_⟩
    · rintro i x s2 hx ⟨x7, x11, rfl⟩
      have hx' : ∃ v, x = .int v := by
        match i, hx with
        | 0, h => exact ⟨_, by cases h; rfl⟩
        | 1, h => exact ⟨_, by cases h; rfl⟩
      obtain ⟨sh, rfl⟩ := hx'
      clear hx
      have h1 : vs[p.toNat]? = some vs[p.toNat] := List.getElem?_eq_getElem (by omega)
      have c1 : (cutG vs none (some p)).length = p.toNat := cutG_pre_len p0 (by omega)
      have c2 : (cutG vs (some (p + 1)) none).length = vs.length - (p + 1).toNat := cutG_suf_len (by omega) (by omega)
      walk_at "go"
      refine wo_of (atI_map p0 h1) ?_
      walk_at "go"
      rw [cutD_map]
      refine wo_cat (sz_le' (by rw [List.length_map, c1]; simp only [List.length_cons, List.length_nil]; omega)) ?_
      walk_at "go"
      rw [cutD_map]
      refine wo_cat (sz_le' (by rw [List.length_append, List.length_map, List.length_map, c1, c2]; simp only [List.length_cons, List.length_nil]; omega)) ?_
      walk_at "gs"
      rw [show (cutG vs none (some p)).map D.int ++ [D.int (vs[p.toNat] + sh)] ++ (cutG vs (some (p + 1)) none).map D.int = (cutG vs none (some p) ++ [vs[p.toNat] + sh] ++ cutG vs (some (p + 1)) none).map D.int by rw [List.map_append, List.map_append]; rfl]
      have hml : (cutG vs none (some p) ++ [vs[p.toNat] + sh] ++ cutG vs (some (p + 1)) none).length = vs.length := by
        rw [List.length_append, List.length_append, c1, c2]
        simp only [List.length_cons, List.length_nil]
        omega
      generalize cutG vs none (some p) ++ [vs[p.toNat] + sh] ++ cutG vs (some (p + 1)) none = ms at hml
      walk_at "go"
      refine (values_ok (by omega) (fun t ht => (hdv t ht).longer hml)).mono ?_
      rintro d M' ⟨rfl, rfl⟩
      walk_at "go"
      exact ⟨_, _, rfl⟩
    · rintro s2 ⟨x7, x11, rfl⟩
      walk_at "go"
      rw [List.length_map]
      refine (draw_ok J5 (by omega) (by omega)).mono ?_
      rintro d M6 ⟨q, rfl, q0, q1, J6⟩
      walk_at "go"
      have h1 : ds[q.toNat]? = some ds[q.toNat] := List.getElem?_eq_getElem (by omega)
      have hq := hdv _ (List.mem_of_getElem? h1)
      refine wo_of (atI_map q0 h1) ?_
      generalize ds[q.toNat] = t at hq
      obtain ⟨a, b, c⟩ := t
      walk_at "go"
      refine wo_cat (sz_le' (by rw [List.length_map]; simp only [List.length_cons, List.length_nil]; omega)) ?_
      walk_at "go"
      refine wo_of (at_g0 (vs := vs) hq.1.1 hq.1.2) ?_
      walk_at "go"
      refine wo_of (at_g0 (vs := vs) hq.2.1 hq.2.2) ?_
      walk_at "go"
      rw [cutD_map]
      have c1 : (cutG ds none (some q)).length = q.toNat := cutG_pre_len q0 (by omega)
      have c2 : (cutG ds (some (q + 1)) none).length = ds.length - (q + 1).toNat := cutG_suf_len (by omega) (by omega)
      refine wo_cat (sz_le' (by rw [List.length_map, c1]; simp only [List.length_cons, List.length_nil]; omega)) ?_
      walk_at "go"
      rw [cutD_map]
      refine wo_cat (sz_le' (by rw [List.length_append, List.length_map, List.length_map, c1, c2]; simp only [List.length_cons, List.length_nil]; omega)) ?_
      walk_at "go"
      have hcat : ∀ m, (cutG ds none (some q)).map e3 ++ [e3 (a, b, m)] ++ (cutG ds (some (q + 1)) none).map e3 = (cutG ds none (some q) ++ [(a, b, m)] ++ cutG ds (some (q + 1)) none).map e3 := fun m => by rw [List.map_append, List.map_append]; rfl
      refine ((congrArg (fun z => wC (callD T 19) "_law_values_told" [.lst z, .lst (vs.map D.int)] M6 _) (hcat _)).mpr (values_ok (k := 16) (by omega) (fun t ht => ?_))).mono ?_
      · rcases List.mem_append.mp ht with h2 | h2
        · rcases List.mem_append.mp h2 with h3 | h3
          · exact hdv t (mem_cutG h3)
          · rw [List.mem_singleton.mp h3]
            exact hq
        · exact hdv t (mem_cutG h2)
      rintro d M' ⟨rfl, rfl⟩
      walk_at "go"
      refine (numbers_ok (ds := []) (ns := [0]) (by decide)).mono ?_
      rintro d M' ⟨rfl, rfl⟩
      walk_at "go"
      refine (numbers_ok (ds := []) (ns := []) (by decide)).mono ?_
      rintro d M' ⟨rfl, rfl⟩
      walk_at "go"
      refine (numbers_ok (ds := ds) (ns := [q, q]) (by show 2 < _; decide)).mono ?_
      rintro d M' ⟨rfl, rfl⟩
      walk_at "go"
theorem law_ok : ∀ ns : List Int, ns.length ≤ 63 → ∃ M, callD T 20 "law" [.fls (ns.map D.int)] [] = some (.bl true, M) := fun ns hn => by
  obtain ⟨d, M, e, rfl⟩ := law_w ns hn
  exact ⟨M, e⟩
end K17

end
section
namespace K17
open PySem PySem.Spec L2 DL
theorem all_mk {w : World} {K : PySem.W.Frag} {h : Heap} {mg : Str → Option Value} {fa : Addr} (X : K.In h) (G : h.Ns mainGlobals mg) (hfa : mg "law" = some (.ref fa))
    {p0 p1 p2 p3 p4 p5 p6 p7 p8 p9 p10 p11 p12 p13 p14 p15 p16 p17 : Addr} {od0 od1 od2 od3 od4 od5 od6 od7 od8 od9 od10 od11 od12 od13 od14 od15 od16 od17 an0 an1 an2 an3 an4 an5 an6 an7 an8 an9 an10 an11 an12 an13 an14 an15 an16 an17 : Option Addr} {sl0 sl1 sl2 sl3 sl4 sl5 sl6 sl7 sl8 sl9 sl10 sl11 sl12 sl13 sl14 sl15 sl16 sl17 : Array (Option Value)} {oc0 oc1 oc2 oc3 oc4 oc5 oc6 oc7 oc8 oc9 oc10 oc11 oc12 oc13 oc14 oc15 oc16 oc17 kV0 kV1 kV2 kV3 kV4 kV5 kV6 kV7 kV8 kV9 kV10 kV11 kV12 kV13 kV14 kV15 kV16 kV17 dc0 dc1 dc2 dc3 dc4 dc5 dc6 dc7 dc8 dc9 dc10 dc11 dc12 dc13 dc14 dc15 dc16 dc17 pm0 pm1 pm2 pm3 pm4 pm5 pm6 pm7 pm8 pm9 pm10 pm11 pm12 pm13 pm14 pm15 pm16 pm17 cd0 cd1 cd2 cd3 cd4 cd5 cd6 cd7 cd8 cd9 cd10 cd11 cd12 cd13 cd14 cd15 cd16 cd17 cy0 cy1 cy2 cy3 cy4 cy5 cy6 cy7 cy8 cy9 cy10 cy11 cy12 cy13 cy14 cy15 cy16 cy17 : Value}
    (a0 : PySem.W.nsIn K mainGlobals (Str.ofString f_chain_sum.name) = some (some (.ref p0)))
    (l0 : K.lookup p0 = some ⟨oc0, od0, .func (PySem.W.fnOf (Str.ofString f_chain_sum.name) (Str.ofString f_chain_sum.name) (defArgs (topS 1)) (defBody (topS 1)) (defScope (topS 1)) .none kV0 dc0 pm0 an0 cd0 cy0), sl0⟩)
    (c0 : PySem.W.codeIn K cd0 (Str.ofString f_chain_sum.name) = true) (k0 : PySem.W.keepIn K (.ref p0) = true)
    (a1 : PySem.W.nsIn K mainGlobals (Str.ofString f_is_ring.name) = some (some (.ref p1)))
    (l1 : K.lookup p1 = some ⟨oc1, od1, .func (PySem.W.fnOf (Str.ofString f_is_ring.name) (Str.ofString f_is_ring.name) (defArgs (topS 2)) (defBody (topS 2)) (defScope (topS 2)) .none kV1 dc1 pm1 an1 cd1 cy1), sl1⟩)
    (c1 : PySem.W.codeIn K cd1 (Str.ofString f_is_ring.name) = true) (k1 : PySem.W.keepIn K (.ref p1) = true)
    (a2 : PySem.W.nsIn K mainGlobals (Str.ofString f_keeps_all.name) = some (some (.ref p2)))
    (l2 : K.lookup p2 = some ⟨oc2, od2, .func (PySem.W.fnOf (Str.ofString f_keeps_all.name) (Str.ofString f_keeps_all.name) (defArgs (topS 3)) (defBody (topS 3)) (defScope (topS 3)) .none kV2 dc2 pm2 an2 cd2 cy2), sl2⟩)
    (c2 : PySem.W.codeIn K cd2 (Str.ofString f_keeps_all.name) = true) (k2 : PySem.W.keepIn K (.ref p2) = true)
    (a3 : PySem.W.nsIn K mainGlobals (Str.ofString f_law_draw.name) = some (some (.ref p3)))
    (l3 : K.lookup p3 = some ⟨oc3, od3, .func (PySem.W.fnOf (Str.ofString f_law_draw.name) (Str.ofString f_law_draw.name) (defArgs (topS 5)) (defBody (topS 5)) (defScope (topS 5)) .none kV3 dc3 pm3 an3 cd3 cy3), sl3⟩)
    (c3 : PySem.W.codeIn K cd3 (Str.ofString f_law_draw.name) = true) (k3 : PySem.W.keepIn K (.ref p3) = true)
    (a4 : PySem.W.nsIn K mainGlobals (Str.ofString f_law_mixed.name) = some (some (.ref p4)))
    (l4 : K.lookup p4 = some ⟨oc4, od4, .func (PySem.W.fnOf (Str.ofString f_law_mixed.name) (Str.ofString f_law_mixed.name) (defArgs (topS 6)) (defBody (topS 6)) (defScope (topS 6)) .none kV4 dc4 pm4 an4 cd4 cy4), sl4⟩)
    (c4 : PySem.W.codeIn K cd4 (Str.ofString f_law_mixed.name) = true) (k4 : PySem.W.keepIn K (.ref p4) = true)
    (a5 : PySem.W.nsIn K mainGlobals (Str.ofString f_law_chain.name) = some (some (.ref p5)))
    (l5 : K.lookup p5 = some ⟨oc5, od5, .func (PySem.W.fnOf (Str.ofString f_law_chain.name) (Str.ofString f_law_chain.name) (defArgs (topS 7)) (defBody (topS 7)) (defScope (topS 7)) .none kV5 dc5 pm5 an5 cd5 cy5), sl5⟩)
    (c5 : PySem.W.codeIn K cd5 (Str.ofString f_law_chain.name) = true) (k5 : PySem.W.keepIn K (.ref p5) = true)
    (a6 : PySem.W.nsIn K mainGlobals (Str.ofString f_law_same_sum.name) = some (some (.ref p6)))
    (l6 : K.lookup p6 = some ⟨oc6, od6, .func (PySem.W.fnOf (Str.ofString f_law_same_sum.name) (Str.ofString f_law_same_sum.name) (defArgs (topS 8)) (defBody (topS 8)) (defScope (topS 8)) .none kV6 dc6 pm6 an6 cd6 cy6), sl6⟩)
    (c6 : PySem.W.codeIn K cd6 (Str.ofString f_law_same_sum.name) = true) (k6 : PySem.W.keepIn K (.ref p6) = true)
    (a7 : PySem.W.nsIn K mainGlobals (Str.ofString f_law_same_truth.name) = some (some (.ref p7)))
    (l7 : K.lookup p7 = some ⟨oc7, od7, .func (PySem.W.fnOf (Str.ofString f_law_same_truth.name) (Str.ofString f_law_same_truth.name) (defArgs (topS 9)) (defBody (topS 9)) (defScope (topS 9)) .none kV7 dc7 pm7 an7 cd7 cy7), sl7⟩)
    (c7 : PySem.W.codeIn K cd7 (Str.ofString f_law_same_truth.name) = true) (k7 : PySem.W.keepIn K (.ref p7) = true)
    (a8 : PySem.W.nsIn K mainGlobals (Str.ofString f_law_numbers_told.name) = some (some (.ref p8)))
    (l8 : K.lookup p8 = some ⟨oc8, od8, .func (PySem.W.fnOf (Str.ofString f_law_numbers_told.name) (Str.ofString f_law_numbers_told.name) (defArgs (topS 10)) (defBody (topS 10)) (defScope (topS 10)) .none kV8 dc8 pm8 an8 cd8 cy8), sl8⟩)
    (c8 : PySem.W.codeIn K cd8 (Str.ofString f_law_numbers_told.name) = true) (k8 : PySem.W.keepIn K (.ref p8) = true)
    (a9 : PySem.W.nsIn K mainGlobals (Str.ofString f_law_kept.name) = some (some (.ref p9)))
    (l9 : K.lookup p9 = some ⟨oc9, od9, .func (PySem.W.fnOf (Str.ofString f_law_kept.name) (Str.ofString f_law_kept.name) (defArgs (topS 11)) (defBody (topS 11)) (defScope (topS 11)) .none kV9 dc9 pm9 an9 cd9 cy9), sl9⟩)
    (c9 : PySem.W.codeIn K cd9 (Str.ofString f_law_kept.name) = true) (k9 : PySem.W.keepIn K (.ref p9) = true)
    (a10 : PySem.W.nsIn K mainGlobals (Str.ofString f_law_values_told.name) = some (some (.ref p10)))
    (l10 : K.lookup p10 = some ⟨oc10, od10, .func (PySem.W.fnOf (Str.ofString f_law_values_told.name) (Str.ofString f_law_values_told.name) (defArgs (topS 12)) (defBody (topS 12)) (defScope (topS 12)) .none kV10 dc10 pm10 an10 cd10 cy10), sl10⟩)
    (c10 : PySem.W.codeIn K cd10 (Str.ofString f_law_values_told.name) = true) (k10 : PySem.W.keepIn K (.ref p10) = true)
    (a11 : PySem.W.nsIn K mainGlobals (Str.ofString f_law_walk.name) = some (some (.ref p11)))
    (l11 : K.lookup p11 = some ⟨oc11, od11, .func (PySem.W.fnOf (Str.ofString f_law_walk.name) (Str.ofString f_law_walk.name) (defArgs (topS 13)) (defBody (topS 13)) (defScope (topS 13)) .none kV11 dc11 pm11 an11 cd11 cy11), sl11⟩)
    (c11 : PySem.W.codeIn K cd11 (Str.ofString f_law_walk.name) = true) (k11 : PySem.W.keepIn K (.ref p11) = true)
    (a12 : PySem.W.nsIn K mainGlobals (Str.ofString f_law_others.name) = some (some (.ref p12)))
    (l12 : K.lookup p12 = some ⟨oc12, od12, .func (PySem.W.fnOf (Str.ofString f_law_others.name) (Str.ofString f_law_others.name) (defArgs (topS 14)) (defBody (topS 14)) (defScope (topS 14)) .none kV12 dc12 pm12 an12 cd12 cy12), sl12⟩)
    (c12 : PySem.W.codeIn K cd12 (Str.ofString f_law_others.name) = true) (k12 : PySem.W.keepIn K (.ref p12) = true)
    (a13 : PySem.W.nsIn K mainGlobals (Str.ofString f_law_rows.name) = some (some (.ref p13)))
    (l13 : K.lookup p13 = some ⟨oc13, od13, .func (PySem.W.fnOf (Str.ofString f_law_rows.name) (Str.ofString f_law_rows.name) (defArgs (topS 15)) (defBody (topS 15)) (defScope (topS 15)) .none kV13 dc13 pm13 an13 cd13 cy13), sl13⟩)
    (c13 : PySem.W.codeIn K cd13 (Str.ofString f_law_rows.name) = true) (k13 : PySem.W.keepIn K (.ref p13) = true)
    (a14 : PySem.W.nsIn K mainGlobals (Str.ofString f_law_closed.name) = some (some (.ref p14)))
    (l14 : K.lookup p14 = some ⟨oc14, od14, .func (PySem.W.fnOf (Str.ofString f_law_closed.name) (Str.ofString f_law_closed.name) (defArgs (topS 16)) (defBody (topS 16)) (defScope (topS 16)) .none kV14 dc14 pm14 an14 cd14 cy14), sl14⟩)
    (c14 : PySem.W.codeIn K cd14 (Str.ofString f_law_closed.name) = true) (k14 : PySem.W.keepIn K (.ref p14) = true)
    (a15 : PySem.W.nsIn K mainGlobals (Str.ofString f_law_chains_told.name) = some (some (.ref p15)))
    (l15 : K.lookup p15 = some ⟨oc15, od15, .func (PySem.W.fnOf (Str.ofString f_law_chains_told.name) (Str.ofString f_law_chains_told.name) (defArgs (topS 17)) (defBody (topS 17)) (defScope (topS 17)) .none kV15 dc15 pm15 an15 cd15 cy15), sl15⟩)
    (c15 : PySem.W.codeIn K cd15 (Str.ofString f_law_chains_told.name) = true) (k15 : PySem.W.keepIn K (.ref p15) = true)
    (a16 : PySem.W.nsIn K mainGlobals (Str.ofString f_law_around.name) = some (some (.ref p16)))
    (l16 : K.lookup p16 = some ⟨oc16, od16, .func (PySem.W.fnOf (Str.ofString f_law_around.name) (Str.ofString f_law_around.name) (defArgs (topS 18)) (defBody (topS 18)) (defScope (topS 18)) .none kV16 dc16 pm16 an16 cd16 cy16), sl16⟩)
    (c16 : PySem.W.codeIn K cd16 (Str.ofString f_law_around.name) = true) (k16 : PySem.W.keepIn K (.ref p16) = true)
    (a17 : PySem.W.nsIn K mainGlobals (Str.ofString f_law.name) = some (some (.ref p17)))
    (l17 : K.lookup p17 = some ⟨oc17, od17, .func (PySem.W.fnOf (Str.ofString f_law.name) (Str.ofString f_law.name) (defArgs (topS 19)) (defBody (topS 19)) (defScope (topS 19)) .none kV17 dc17 pm17 an17 cd17 cy17), sl17⟩)
    (c17 : PySem.W.codeIn K cd17 (Str.ofString f_law.name) = true) (k17 : PySem.W.keepIn K (.ref p17) = true)
    (z0 : PySem.W.nsIn K mainGlobals "len" = some none) (z1 : PySem.W.nsIn K mainGlobals "list" = some none) (z2 : PySem.W.nsIn K mainGlobals "tuple" = some none) (z3 : PySem.W.nsIn K mainGlobals "sum" = some none) (z4 : PySem.W.nsIn K mainGlobals "abs" = some none) (z5 : PySem.W.nsIn K mainGlobals "int" = some none) (z6 : PySem.W.nsIn K mainGlobals "str" = some none) (z7 : PySem.W.nsIn K mainGlobals "isinstance" = some none) (z8 : PySem.W.nsIn K mainGlobals "range" = some none) (z9 : PySem.W.nsIn K mainGlobals "bool" = some none) :
    ∃ fd : FuncData, (∀ (s : Shared) (u : Value), BindsTo s fd ⟨[u], []⟩ [("script", u)]) ∧ ∀ base : Heap, K.In base → base.Ns mainGlobals mg → FnOk PySem.Challenge.rw_swornlike_k17_whole_chains_rings_and_val.prog w K mg base CX0 20 fa fd ["script"] (spLaw K T 20) := by
  have e := hfa.symm.trans (PySem.W.mg_of X G a17)
  cases e
  have tb : TblAt PySem.Challenge.pw_swornlike_k17_whole_chains_rings_and_val K mg T := tbl_at (def_at X G a0 l0 c0 k0) (def_at X G a1 l1 c1 k1) (def_at X G a2 l2 c2 k2) (def_at X G a3 l3 c3 k3) (def_at X G a4 l4 c4 k4) (def_at X G a5 l5 c5 k5) (def_at X G a6 l6 c6 k6) (def_at X G a7 l7 c7 k7) (def_at X G a8 l8 c8 k8) (def_at X G a9 l9 c9 k9) (def_at X G a10 l10 c10 k10) (def_at X G a11 l11 c11 k11) (def_at X G a12 l12 c12 k12) (def_at X G a13 l13 c13 k13) (def_at X G a14 l14 c14 k14) (def_at X G a15 l15 c15 k15) (def_at X G a16 l16 c16 k16) (def_at X G a17 l17 c17 k17) ?_
  · exact ⟨_, fun s v => .of_eq rfl, fun base _ _ => law_fn tb 20 (g := f_law) (by simp [T]) rfl rfl rfl hfa (fun_mk l17 c17 k17) base⟩
  · intro x hx
    simp only [bltNames, List.mem_cons, List.not_mem_nil, or_false] at hx
    rcases hx with rfl | rfl | rfl | rfl | rfl | rfl | rfl | rfl | rfl | rfl
    · exact PySem.W.mg_none_of X G z0
    · exact PySem.W.mg_none_of X G z1
    · exact PySem.W.mg_none_of X G z2
    · exact PySem.W.mg_none_of X G z3
    · exact PySem.W.mg_none_of X G z4
    · exact PySem.W.mg_none_of X G z5
    · exact PySem.W.mg_none_of X G z6
    · exact PySem.W.mg_none_of X G z7
    · exact PySem.W.mg_none_of X G z8
    · exact PySem.W.mg_none_of X G z9
end K17

end
section

open PySem PySem.W PyProof.Rows
set_option maxHeartbeats 0 in
theorem PySem.Challenge.cw_swornlike_k17_whole_chains_rings_and_val_holds : PySem.Challenge.rw_swornlike_k17_whole_chains_rings_and_val.Holds := by
  w_on; o_law; k_head; (case hw => w_witness2)
  k_fill
  refine L2.walk_of (l := PySem.Challenge.rw_swornlike_k17_whole_chains_rings_and_val) (n := 63) (k := 20) (x := "script") (CX := fun _ => L2.CX0) (sp := fun w => DL.spLaw _ K17.T 20) rfl (by decide) rfl ⟨rfl, by decide, by decide⟩ (fun w h Y => PySem.W.kIn_of Y) ?F (fun _ _ a ns hl _ hS => DL.law_start K17.law_ok hl hS) (fun _ _ _ _ _ h => h)
  case F =>
    intro w mg fa h KX G hmg
    refine' K17.all_mk KX G hmg ?a0 ?l0 ?c0 ?k0 ?a1 ?l1 ?c1 ?k1 ?a2 ?l2 ?c2 ?k2 ?a3 ?l3 ?c3 ?k3 ?a4 ?l4 ?c4 ?k4 ?a5 ?l5 ?c5 ?k5 ?a6 ?l6 ?c6 ?k6 ?a7 ?l7 ?c7 ?k7 ?a8 ?l8 ?c8 ?k8 ?a9 ?l9 ?c9 ?k9 ?a10 ?l10 ?c10 ?k10 ?a11 ?l11 ?c11 ?k11 ?a12 ?l12 ?c12 ?k12 ?a13 ?l13 ?c13 ?k13 ?a14 ?l14 ?c14 ?k14 ?a15 ?l15 ?c15 ?k15 ?a16 ?l16 ?c16 ?k16 ?a17 ?l17 ?c17 ?k17 ?z0 ?z1 ?z2 ?z3 ?z4 ?z5 ?z6 ?z7 ?z8 ?z9
    (case a0 => k_is); (case l0 => k_is); (case c0 => k_is); (case k0 => k_is); (case a1 => k_is); (case l1 => k_is); (case c1 => k_is); (case k1 => k_is); (case a2 => k_is); (case l2 => k_is); (case c2 => k_is); (case k2 => k_is); (case a3 => k_is); (case l3 => k_is); (case c3 => k_is); (case k3 => k_is); (case a4 => k_is); (case l4 => k_is); (case c4 => k_is); (case k4 => k_is); (case a5 => k_is); (case l5 => k_is); (case c5 => k_is); (case k5 => k_is); (case a6 => k_is); (case l6 => k_is); (case c6 => k_is); (case k6 => k_is); (case a7 => k_is); (case l7 => k_is); (case c7 => k_is); (case k7 => k_is); (case a8 => k_is); (case l8 => k_is); (case c8 => k_is); (case k8 => k_is); (case a9 => k_is); (case l9 => k_is); (case c9 => k_is); (case k9 => k_is); (case a10 => k_is); (case l10 => k_is); (case c10 => k_is); (case k10 => k_is); (case a11 => k_is); (case l11 => k_is); (case c11 => k_is); (case k11 => k_is); (case a12 => k_is); (case l12 => k_is); (case c12 => k_is); (case k12 => k_is); (case a13 => k_is); (case l13 => k_is); (case c13 => k_is); (case k13 => k_is); (case a14 => k_is); (case l14 => k_is); (case c14 => k_is); (case k14 => k_is); (case a15 => k_is); (case l15 => k_is); (case c15 => k_is); (case k15 => k_is); (case a16 => k_is); (case l16 => k_is); (case c16 => k_is); (case k16 => k_is); (case a17 => k_is); (case l17 => k_is); (case c17 => k_is); (case k17 => k_is)
    (case z0 => k_is); (case z1 => k_is); (case z2 => k_is); (case z3 => k_is); (case z4 => k_is); (case z5 => k_is); (case z6 => k_is); (case z7 => k_is); (case z8 => k_is); (case z9 => k_is)

end
