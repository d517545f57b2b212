import PyProof.Rows.All
import Lean
import Wide.All
import OpenK.AllK
import Wide.FinOn
import HandS.ForMost
import HandS.Exc
import HandS.TryOnly
import HandS.ExcOwn
import HandS.Wide
import HandS.Flow
import HandS.TupAny
import HandS.IsInst
import HandS.WordsExc
import HandS.Small
import HandS.Defaults
import HandS.HeadHook2
import HandS.HeadEnd
import HandS.EndTab
import HandS.HeadWalk
import HandS.Head2
import HandS.TupLe
import PySem.Challenge.RW_samegate_k61_units_that_bear_costs
set_option Elab.async false
set_option linter.all false
set_option maxRecDepth 100000
set_option maxHeartbeats 1000000
/-! D layer, part 0: data trees, how they lie in the heap, the state. -/
namespace DL
open PySem PySem.Spec PyProof.Rows L2

/-- data -/
inductive D where
  | non | bl (b : Bool) | int (i : Int) | str (x : Str) | tup (xs : List D) | lst (xs : List D) | dct (kvs : List (Key × D)) | obj (C : Addr) (fs : List (Str × D)) | scr (ns : List Int)

theorem same_seqL {K : PySem.W.Frag} {H H' : Hp} {a : Addr} {xs : List V} (e : Same H H') (h : SqL K H a xs) : SqL K H' a xs := e.seq h
theorem same_seqT {K : PySem.W.Frag} {H H' : Hp} {a : Addr} {xs : List V} (e : Same H H') (h : SqT K H a xs) : SqT K H' a xs := by
  rcases h with (h | ⟨o, h⟩) | h
  · exact .inl (.inl (e _ _ h))
  · exact .inl (.inr ⟨o, e _ _ h⟩)
  · exact .inr h

mutual
/-- the value v stands for the data d, by what H tells -/
inductive Dv (K : PySem.W.Frag) (H : Hp) : V → D → Prop
  | non : Dv K H .non .non
  | bl (b : Bool) : Dv K H (.bl b) (.bl b)
  | int (i : Int) : Dv K H (.int i) (.int i)
  | str (x : Str) : Dv K H (.str x) (.str x)
  | tup {a : Addr} {xs : List V} {ds : List D} : SqT K H a xs → DvA K H xs ds → Dv K H (.ref a) (.tup ds)
  | scr {a : Addr} {ns : List Int} : SqL K H a (ns.map V.int) → Dv K H (.ref a) (.scr ns)
  | lst {a : Addr} {xs : List V} {ds : List D} : H a = some (.lst xs) → DvA K H xs ds → Dv K H (.ref a) (.lst ds)
  | dct {a : Addr} {kv : List (Key × V)} {kd : List (Key × D)} : H a = some (.dK kv) → kv.map Prod.fst = kd.map Prod.fst → DvA K H (kv.map Prod.snd) (kd.map Prod.snd) → Dv K H (.ref a) (.dct kd)
  | obj {a C dx : Addr} {fv : List (Str × V)} {fd : List (Str × D)} : H a = some (.ins C dx fv) → fv.map Prod.fst = fd.map Prod.fst → DvA K H (fv.map Prod.snd) (fd.map Prod.snd) → Dv K H (.ref a) (.obj C fd)
inductive DvA (K : PySem.W.Frag) (H : Hp) : List V → List D → Prop
  | nil : DvA K H [] []
  | cons {v : V} {vs : List V} {d : D} {ds : List D} : Dv K H v d → DvA K H vs ds → DvA K H (v :: vs) (d :: ds)
end

section
variable {K : PySem.W.Frag} {H H' : Hp}
mutual
theorem Dv.mono (e : Same H H') : ∀ {v : V} {d : D}, Dv K H v d → Dv K H' v d
  | _, _, .non => .non
  | _, _, .bl b => .bl b
  | _, _, .int i => .int i
  | _, _, .str x => .str x
  | _, _, .tup h t => .tup (same_seqT e h) (DvA.mono e t)
  | _, _, .scr h => .scr (same_seqL e h)
  | _, _, .lst h t => .lst (e _ _ h) (DvA.mono e t)
  | _, _, .dct h k t => .dct (e _ _ h) k (DvA.mono e t)
  | _, _, .obj h k t => .obj (e _ _ h) k (DvA.mono e t)
theorem DvA.mono (e : Same H H') : ∀ {vs : List V} {ds : List D}, DvA K H vs ds → DvA K H' vs ds
  | _, _, .nil => .nil
  | _, _, .cons h t => .cons (Dv.mono e h) (DvA.mono e t)
end
theorem DvA.length : ∀ {vs : List V} {ds : List D}, DvA K H vs ds → vs.length = ds.length
  | _, _, .nil => rfl
  | _, _, .cons _ t => by simp [DvA.length t]
theorem DvA.get : ∀ {vs : List V} {ds : List D} {i : Nat} {d : D}, DvA K H vs ds → ds[i]? = some d → ∃ v, vs[i]? = some v ∧ Dv K H v d
  | _, _, _, _, .nil, e => by simp at e
  | _, _, 0, _, .cons h _, e => by simp at e; subst e; exact ⟨_, rfl, h⟩
  | _, _, i + 1, _, .cons _ t, e => by simpa using DvA.get (i := i) t (by simpa using e)
theorem DvA.getV : ∀ {vs : List V} {ds : List D} {i : Nat} {v : V}, DvA K H vs ds → vs[i]? = some v → ∃ d, ds[i]? = some d ∧ Dv K H v d
  | _, _, _, _, .nil, e => by simp at e
  | _, _, 0, _, .cons h _, e => by simp at e; subst e; exact ⟨_, rfl, h⟩
  | _, _, i + 1, _, .cons _ t, e => by simpa using DvA.getV (i := i) t (by simpa using e)
theorem DvA.append : ∀ {vs ws : List V} {ds es : List D}, DvA K H vs ds → DvA K H ws es → DvA K H (vs ++ ws) (ds ++ es)
  | _, _, _, _, .nil, h => h
  | _, _, _, _, .cons h t, h2 => .cons h (DvA.append t h2)
theorem DvA.set {x : V} {d : D} (r : Dv K H x d) : ∀ {vs : List V} {ds : List D} (i : Nat), DvA K H vs ds → DvA K H (vs.set i x) (ds.set i d)
  | _, _, _, .nil => .nil
  | _, _, 0, .cons _ t => .cons r t
  | _, _, i + 1, .cons h t => .cons h (DvA.set r i t)
theorem DvA.take : ∀ {vs : List V} {ds : List D} (n : Nat), DvA K H vs ds → DvA K H (vs.take n) (ds.take n)
  | _, _, 0, _ => .nil
  | _, _, _ + 1, .nil => .nil
  | _, _, n + 1, .cons h t => .cons h (DvA.take n t)
theorem DvA.drop : ∀ {vs : List V} {ds : List D} (n : Nat), DvA K H vs ds → DvA K H (vs.drop n) (ds.drop n)
  | _, _, 0, r => r
  | _, _, _ + 1, .nil => .nil
  | _, _, n + 1, .cons _ t => DvA.drop n t
end

/-! no list, dict or object within -/
mutual
@[simp ↓] def flat : D → Bool
  | .tup xs => flatA xs
  | .lst _ => false
  | .scr _ => false
  | .dct _ => false
  | .obj _ _ => false
  | _ => true
@[simp ↓] def flatA : List D → Bool
  | [] => true
  | d :: ds => flat d && flatA ds
end
theorem flatA_all : ∀ {ds : List D}, (∀ d ∈ ds, flat d = true) → flatA ds = true
  | [], _ => rfl
  | d :: ds, h => by
    rw [flatA, h d List.mem_cons_self, flatA_all fun x hx => h x (List.mem_cons_of_mem _ hx)]; rfl

/-! what flat data lean on: tuples -/
mutual
theorem Dv.flat_of {K : PySem.W.Frag} {H F : Hp} (ht : ∀ a xs, Rd H a (.tup xs) → Rd F a (.tup xs)) : ∀ {v : V} {d : D}, Dv K H v d → flat d = true → Dv K F v d
  | _, _, .non, _ => .non
  | _, _, .bl b, _ => .bl b
  | _, _, .int i, _ => .int i
  | _, _, .str x, _ => .str x
  | _, _, .tup h t, e => .tup (h.elim (fun q => .inl (ht _ _ q)) .inr) (DvA.flat_of ht t (by simpa [flat] using e))
  | _, _, .lst _ _, e => by simp [flat] at e
  | _, _, .scr _, e => by simp [flat] at e
  | _, _, .dct _ _ _, e => by simp [flat] at e
  | _, _, .obj _ _ _, e => by simp [flat] at e
theorem DvA.flat_of {K : PySem.W.Frag} {H F : Hp} (ht : ∀ a xs, Rd H a (.tup xs) → Rd F a (.tup xs)) : ∀ {vs : List V} {ds : List D}, DvA K H vs ds → flatA ds = true → DvA K F vs ds
  | _, _, .nil, _ => .nil
  | _, _, .cons h t, e => by
    rw [flatA, Bool.and_eq_true] at e
    exact .cons (Dv.flat_of ht h e.1) (DvA.flat_of ht t e.2)
end

/-! ### what is owned -/
/-- f: nothing; o m: a list or dict, its items by m; ob ms: an object, its fields by ms -/
inductive Mask where
  | f | o (m : Mask) | ob (ms : List Mask)

mutual
/-- v stands for d; the containers that the mask tells stand at the addresses as, the rest in F -/
inductive Ow (K : PySem.W.Frag) (F H : Hp) : Mask → V → D → List Addr → Prop
  | fz {v : V} {d : D} : Dv K F v d → Ow K F H .f v d []
  | lst {m : Mask} {a : Addr} {vs : List V} {ds : List D} {as : List Addr} : H a = some (.lst vs) → OwL K F H (ds.map fun _ => m) vs ds as → Ow K F H (.o m) (.ref a) (.lst ds) (a :: as)
  | dct {m : Mask} {a : Addr} {kv : List (Key × V)} {kd : List (Key × D)} {as : List Addr} : H a = some (.dK kv) → kv.map Prod.fst = kd.map Prod.fst → OwL K F H ((kd.map Prod.snd).map fun _ => m) (kv.map Prod.snd) (kd.map Prod.snd) as → Ow K F H (.o m) (.ref a) (.dct kd) (a :: as)
  | obj {ms : List Mask} {a C dx : Addr} {fv : List (Str × V)} {fd : List (Str × D)} {as : List Addr} : H a = some (.ins C dx fv) → fv.map Prod.fst = fd.map Prod.fst → OwL K F H ms (fv.map Prod.snd) (fd.map Prod.snd) as → Ow K F H (.ob ms) (.ref a) (.obj C fd) (a :: as)
inductive OwL (K : PySem.W.Frag) (F H : Hp) : List Mask → List V → List D → List Addr → Prop
  | nil : OwL K F H [] [] [] []
  | cons {m : Mask} {ms : List Mask} {v : V} {vs : List V} {d : D} {ds : List D} {as bs : List Addr} : Ow K F H m v d as → OwL K F H ms vs ds bs → OwL K F H (m :: ms) (v :: vs) (d :: ds) (as ++ bs)
end
section
variable {K : PySem.W.Frag} {F F' H H' : Hp}
mutual
theorem Ow.mono (e : Same F F') : ∀ {m : Mask} {v : V} {d : D} {as : List Addr}, Ow K F H m v d as → (∀ a o, a ∈ as → H a = some o → H' a = some o) → Ow K F' H' m v d as
  | _, _, _, _, .fz h, _ => .fz (h.mono e)
  | _, _, _, _, .lst h t, k => .lst (k _ _ List.mem_cons_self h) (OwL.mono e t fun a o ha => k a o (List.mem_cons_of_mem _ ha))
  | _, _, _, _, .dct h q t, k => .dct (k _ _ List.mem_cons_self h) q (OwL.mono e t fun a o ha => k a o (List.mem_cons_of_mem _ ha))
  | _, _, _, _, .obj h q t, k => .obj (k _ _ List.mem_cons_self h) q (OwL.mono e t fun a o ha => k a o (List.mem_cons_of_mem _ ha))
theorem OwL.mono (e : Same F F') : ∀ {ms : List Mask} {vs : List V} {ds : List D} {as : List Addr}, OwL K F H ms vs ds as → (∀ a o, a ∈ as → H a = some o → H' a = some o) → OwL K F' H' ms vs ds as
  | _, _, _, _, .nil, _ => .nil
  | _, _, _, _, .cons h t, k => .cons (Ow.mono e h fun a o ha => k a o (List.mem_append_left _ ha)) (OwL.mono e t fun a o ha => k a o (List.mem_append_right _ ha))
end
mutual
theorem Ow.there : ∀ {m : Mask} {v : V} {d : D} {as : List Addr}, Ow K F H m v d as → ∀ a ∈ as, ∃ o, H a = some o
  | _, _, _, _, .fz _, _, ha => absurd ha List.not_mem_nil
  | _, _, _, _, .lst h t, a, ha => by
    rcases List.mem_cons.mp ha with rfl | ha
    · exact ⟨_, h⟩
    · exact OwL.there t a ha
  | _, _, _, _, .dct h _ t, a, ha => by
    rcases List.mem_cons.mp ha with rfl | ha
    · exact ⟨_, h⟩
    · exact OwL.there t a ha
  | _, _, _, _, .obj h _ t, a, ha => by
    rcases List.mem_cons.mp ha with rfl | ha
    · exact ⟨_, h⟩
    · exact OwL.there t a ha
theorem OwL.there : ∀ {ms : List Mask} {vs : List V} {ds : List D} {as : List Addr}, OwL K F H ms vs ds as → ∀ a ∈ as, ∃ o, H a = some o
  | _, _, _, _, .nil, _, ha => absurd ha List.not_mem_nil
  | _, _, _, _, .cons h t, a, ha => by
    rcases List.mem_append.mp ha with ha | ha
    · exact Ow.there h a ha
    · exact OwL.there t a ha
end
mutual
/-- what is owned stands for its data, in any heap that has F and it -/
theorem Ow.dv {G : Hp} (e : Same F G) : ∀ {m : Mask} {v : V} {d : D} {as : List Addr}, Ow K F H m v d as → (∀ a o, a ∈ as → H a = some o → G a = some o) → Dv K G v d
  | _, _, _, _, .fz h, _ => h.mono e
  | _, _, _, _, .lst h t, k => .lst (k _ _ List.mem_cons_self h) (OwL.dv e t fun a o ha => k a o (List.mem_cons_of_mem _ ha))
  | _, _, _, _, .dct h q t, k => .dct (k _ _ List.mem_cons_self h) q (OwL.dv e t fun a o ha => k a o (List.mem_cons_of_mem _ ha))
  | _, _, _, _, .obj h q t, k => .obj (k _ _ List.mem_cons_self h) q (OwL.dv e t fun a o ha => k a o (List.mem_cons_of_mem _ ha))
theorem OwL.dv {G : Hp} (e : Same F G) : ∀ {ms : List Mask} {vs : List V} {ds : List D} {as : List Addr}, OwL K F H ms vs ds as → (∀ a o, a ∈ as → H a = some o → G a = some o) → DvA K G vs ds
  | _, _, _, _, .nil, _ => .nil
  | _, _, _, _, .cons h t, k => .cons (Ow.dv e h fun a o ha => k a o (List.mem_append_left _ ha)) (OwL.dv e t fun a o ha => k a o (List.mem_append_right _ ha))
end
end

theorem OwL.of_dv {K : PySem.W.Frag} {F H : Hp} : ∀ {vs : List V} {ds : List D}, DvA K F vs ds → OwL K F H (ds.map fun _ => Mask.f) vs ds []
  | _, _, .nil => .nil
  | _, _, .cons h t => by simpa using OwL.cons (.fz h) (OwL.of_dv (H := H) t)

/-! ### the state -/
/-- frz: nobody changes it any more; lent: not while this def runs; view: as the heap stands now; own: it is this slot's alone; brw: .. and lies at v, the caller's -/
inductive Md where
  | frz | lent | view (m : Mask) | own (m : Mask) | brw (m : Mask) (v : V)
@[simp ↓] def Md.noview : Md → Bool
  | .view _ => false
  | _ => true
/-- a look at what is owned by m -/
@[simp ↓] def vw : Mask → Md
  | .f => .frz
  | m => .view m
abbrev Slot := Option (D × Md)
abbrev Env := List Slot

def Rt (K : PySem.W.Frag) (G F H : Hp) (v : V) (d : D) : Md → List Addr → Prop
  | .frz, as => Dv K F v d ∧ as = []
  | .lent, as => Dv K G v d ∧ as = []
  | .view m, as => (∃ bs, Ow K F H m v d bs) ∧ as = []
  | .own m, as => Ow K F H m v d as
  | .brw m v0, as => v = v0 ∧ Ow K F H m v d as
/-- at one place -/
def RtO (K : PySem.W.Frag) (G F H : Hp) (x : Option (Option V)) (e : Option Slot) (as : List Addr) : Prop :=
  match e with
  | some (some (d, md)) => ∃ v, x = some (some v) ∧ Rt K G F H v d md as
  | _ => as = []

structure StD (K : PySem.W.Frag) (G F0 F H : Hp) (vs : List (Option V)) (es : Env) : Prop where
  gh : Same G H
  fh : Same F H
  f0 : Same F0 F
  fg : ∀ a o, F a = some o → F0 a = some o ∨ G a = none
  tu : ∀ a xs, Rd H a (.tup xs) → Rd F a (.tup xs)
  rts : ∃ A : Nat → List Addr, (∀ i, RtO K G F H vs[i]? es[i]? (A i)) ∧ (∀ i, (A i).Nodup) ∧ (∀ i j a, a ∈ A i → a ∈ A j → i = j) ∧ ∀ i a, a ∈ A i → F a = none ∧ G a = none

section
variable {K : PySem.W.Frag} {G F0 F F' H H' : Hp} {vs vs' : List (Option V)} {es es' : Env} {v : V} {d : D}
theorem Rt.mono (eF : Same F F') (eH : Same H H') : ∀ {md : Md} {as : List Addr}, Rt K G F H v d md as → Rt K G F' H' v d md as
  | .frz, _, h => ⟨h.1.mono eF, h.2⟩
  | .lent, _, h => h
  | .view _, _, h => ⟨h.1.imp fun _ o => Ow.mono eF o fun a u _ => eH a u, h.2⟩
  | .own _, _, h => Ow.mono eF h fun a o _ => eH a o
  | .brw _ _, _, h => ⟨h.1, Ow.mono eF h.2 fun a o _ => eH a o⟩
/-- where the owned addresses are kept, no views -/
theorem Rt.keep (eF : Same F F') : ∀ {md : Md} {as : List Addr}, md.noview = true → Rt K G F H v d md as → (∀ a o, a ∈ as → H a = some o → H' a = some o) → Rt K G F' H' v d md as
  | .frz, _, _, h, _ => ⟨h.1.mono eF, h.2⟩
  | .lent, _, _, h, _ => h
  | .own _, _, _, h, k => Ow.mono eF h k
  | .brw _ _, _, _, h, k => ⟨h.1, Ow.mono eF h.2 k⟩
theorem Rt.there : ∀ {md : Md} {as : List Addr}, Rt K G F H v d md as → ∀ a ∈ as, ∃ o, H a = some o
  | .frz, _, h, a, ha => by rw [h.2] at ha; exact absurd ha List.not_mem_nil
  | .lent, _, h, a, ha => by rw [h.2] at ha; exact absurd ha List.not_mem_nil
  | .view _, _, h, a, ha => by rw [h.2] at ha; exact absurd ha List.not_mem_nil
  | .own _, _, h, a, ha => Ow.there h a ha
  | .brw _ _, _, h, a, ha => Ow.there h.2 a ha
theorem Rt.vw {m : Mask} {bs : List Addr} (h : Ow K F H m v d bs) : Rt K G F H v d (vw m) [] := by
  cases m with
  | f => cases h with | fz q => exact ⟨q, rfl⟩
  | o m => exact ⟨⟨_, h⟩, rfl⟩
  | ob ms => exact ⟨⟨_, h⟩, rfl⟩
theorem Rt.dv (fh : Same F H) (gh : Same G H) : ∀ {md : Md} {as : List Addr}, Rt K G F H v d md as → Dv K H v d
  | .frz, _, h => h.1.mono fh
  | .lent, _, h => h.1.mono gh
  | .view _, _, h => h.1.elim fun _ o => Ow.dv fh o fun _ _ _ e => e
  | .own _, _, h => Ow.dv fh h fun _ _ _ e => e
  | .brw _ _, _, h => Ow.dv fh h.2 fun _ _ _ e => e
theorem RtO.imp {x : Option (Option V)} {e : Option Slot} {as : List Addr} (k : ∀ v d md, e = some (some (d, md)) → Rt K G F H v d md as → Rt K G F' H' v d md as) (h : RtO K G F H x e as) : RtO K G F' H' x e as := by
  unfold RtO at h ⊢
  split
  · obtain ⟨v, h1, h2⟩ := h
    exact ⟨v, h1, k v _ _ rfl h2⟩
  · rename_i hn
    split at h
    · exact absurd rfl (hn _ _)
    · exact h
theorem RtO.there {x : Option (Option V)} {e : Option Slot} {as : List Addr} (h : RtO K G F H x e as) : ∀ a ∈ as, ∃ o, H a = some o := by
  unfold RtO at h
  split at h
  · obtain ⟨v, h1, h2⟩ := h
    exact h2.there
  · subst h; intro a ha; exact absurd ha List.not_mem_nil
theorem StD.get (S : StD K G F0 F H vs es) {i : Nat} {md : Md} (e : es[i]? = some (some (d, md))) : ∃ v, vs[i]? = some (some v) ∧ Dv K H v d := by
  obtain ⟨A, h, _⟩ := S.rts
  have q := h i
  rw [e] at q
  obtain ⟨v, h1, h2⟩ := q
  exact ⟨v, h1, h2.dv S.fh S.gh⟩
theorem StD.getR (S : StD K G F0 F H vs es) {i : Nat} {md : Md} (e : es[i]? = some (some (d, md))) : ∃ v as, vs[i]? = some (some v) ∧ Rt K G F H v d md as := by
  obtain ⟨A, h, _⟩ := S.rts
  have q := h i
  rw [e] at q
  obtain ⟨v, h1, h2⟩ := q
  exact ⟨v, _, h1, h2⟩
/-- roots are dropped, turned, moved -/
theorem StD.reix (S : StD K G F0 F H vs es) (f : Nat → Nat) (inj : ∀ i j, (∃ p, es'[i]? = some (some p)) → (∃ p, es'[j]? = some (some p)) → f i = f j → i = j)
    (hv : ∀ i p, es'[i]? = some (some p) → es[f i]? = some (some p) ∧ vs'[i]? = vs[f i]?) : StD K G F0 F H vs' es' := by
  obtain ⟨A, h1, h2, h3, h4⟩ := S.rts
  refine ⟨S.gh, S.fh, S.f0, S.fg, S.tu, fun i => match es'[i]? with | some (some _) => A (f i) | _ => [], fun i => ?_, fun i => ?_, fun i j a ha hb => ?_, fun i a ha => ?_⟩
  · cases q : es'[i]? with
    | none => simp [RtO, q]
    | some e =>
      cases e with
      | none => simp [RtO, q]
      | some p =>
        obtain ⟨e1, e2⟩ := hv i p q
        have := h1 (f i)
        rw [e1] at this
        simpa [RtO, e2, q] using this
  · dsimp only
    split
    · exact h2 _
    · exact List.nodup_nil
  · dsimp only at ha hb
    split at ha
    · rename_i p q
      split at hb
      · rename_i p' q'
        exact inj i j ⟨_, q⟩ ⟨_, q'⟩ (h3 _ _ a ha hb)
      · exact absurd hb List.not_mem_nil
    · exact absurd ha List.not_mem_nil
  · dsimp only at ha
    split at ha
    · exact h4 _ a ha
    · exact absurd ha List.not_mem_nil
/-- the heap has grown by what is no tuple; F too, by what is fresh -/
theorem StD.grow (S : StD K G F0 F H vs es) (eF : Same F F') (eH : Same H H') (fh : Same F' H') (nF : ∀ a o, F' a = some o → F a = some o ∨ H a = none) (tu : ∀ a xs, Rd H' a (.tup xs) → Rd F' a (.tup xs)) : StD K G F0 F' H' vs es := by
  obtain ⟨A, h1, h2, h3, h4⟩ := S.rts
  have gn : ∀ a, H a = none → G a = none := fun a e => by
    cases q : G a with
    | none => rfl
    | some o => rw [S.gh _ _ q] at e; cases e
  refine ⟨fun a o e => eH _ _ (S.gh _ _ e), fh, fun a o e => eF _ _ (S.f0 _ _ e), fun a o e => ?_, tu, A, fun i => (h1 i).imp fun v d md _ => Rt.mono eF eH, h2, h3, fun i a ha => ?_⟩
  · rcases nF a o e with q | q
    · exact S.fg a o q
    · exact .inr (gn a q)
  · refine ⟨?_, (h4 i a ha).2⟩
    cases q : F' a with
    | none => rfl
    | some o =>
      rcases nF a o q with z | z
      · rw [(h4 i a ha).1] at z; cases z
      · obtain ⟨o', e'⟩ := (h1 i).there a ha
        rw [z] at e'; cases e'
theorem rd_upd {H : Hp} {p a : Addr} {o u : HO} (h : Rd (upd H p o) a u) : (a = p ∧ (o = u ∨ ∃ z, o = .frz z u)) ∨ (a ≠ p ∧ Rd H a u) := by
  by_cases e : a = p
  · subst e
    refine .inl ⟨rfl, ?_⟩
    rcases h with h | ⟨z, h⟩
    · rw [upd_same] at h; cases h; exact .inl rfl
    · rw [upd_same] at h; cases h; exact .inr ⟨z, rfl⟩
  · refine .inr ⟨e, ?_⟩
    unfold Rd at h ⊢
    rw [upd_ne e] at h
    exact h
theorem same_upd {H : Hp} {p : Addr} {o : HO} (h : H p = none) : Same H (upd H p o) := fun a u e => by rw [upd_ne (ne_of_none e h)]; exact e
theorem StD.fnone (S : StD K G F0 F H vs es) {p : Addr} (h : H p = none) : F p = none := by
  cases q : F p with
  | none => rfl
  | some o => rw [S.fh _ _ q] at h; cases h
theorem StD.gnone (S : StD K G F0 F H vs es) {p : Addr} (h : H p = none) : G p = none := by
  cases q : G p with
  | none => rfl
  | some o => rw [S.gh _ _ q] at h; cases h
/-- a new thing that is no tuple -/
theorem StD.alloc (S : StD K G F0 F H vs es) {p : Addr} {o : HO} (h : H p = none) (no : ∀ xs, o ≠ .tup xs ∧ ∀ z, o ≠ .frz z (.tup xs)) : StD K G F0 F (upd H p o) vs es :=
  S.grow (fun _ _ e => e) (same_upd h) (fun a u e => same_upd h _ _ (S.fh _ _ e)) (fun _ _ e => .inl e) fun a xs r => by
    rcases rd_upd r with ⟨_, q | ⟨z, q⟩⟩ | ⟨_, q⟩
    · exact absurd q (no xs).1
    · exact absurd q ((no xs).2 z)
    · exact S.tu a xs q
/-- a new thing that never changes -/
theorem StD.allocF (S : StD K G F0 F H vs es) {p : Addr} {o : HO} (h : H p = none) : StD K G F0 (upd F p o) (upd H p o) vs es :=
  S.grow (same_upd (S.fnone h)) (same_upd h) (fun a u e => by
    by_cases q : a = p
    · subst q; rw [upd_same] at e ⊢; exact e
    · rw [upd_ne q] at e ⊢; exact S.fh _ _ e) (fun a u e => by
    by_cases q : a = p
    · subst q; exact .inr h
    · rw [upd_ne q] at e; exact .inl e) fun a xs r => by
    rcases rd_upd r with ⟨rfl, q | ⟨z, q⟩⟩ | ⟨q, r⟩
    · subst q; exact .inl upd_same
    · subst q; exact .inr ⟨z, upd_same⟩
    · have := S.tu a xs r
      unfold Rd at this ⊢
      rw [upd_ne q]
      exact this
/-- one root more, behind the others -/
theorem StD.pushA (S : StD K G F0 F H vs es) (hl : vs.length = es.length) {md : Md} {as : List Addr} (r : Rt K G F H v d md as) (nd : as.Nodup) (ap : ∀ a ∈ as, F a = none ∧ G a = none)
    (A : Nat → List Addr) (h1 : ∀ i, RtO K G F H vs[i]? es[i]? (A i)) (h2 : ∀ i, (A i).Nodup) (h3 : ∀ i j a, a ∈ A i → a ∈ A j → i = j) (h4 : ∀ i a, a ∈ A i → F a = none ∧ G a = none)
    (nw : ∀ i, ∀ a ∈ as, a ∉ A i) : StD K G F0 F H (vs ++ [some v]) (es ++ [some (d, md)]) := by
  refine ⟨S.gh, S.fh, S.f0, S.fg, S.tu, fun i => if i = es.length then as else if es.length < i then [] else A i, fun i => ?_, fun i => ?_, fun i j a ha hb => ?_, fun i a ha => ?_⟩
  · by_cases e : i = es.length
    · subst e
      simp only [if_true, List.getElem?_concat_length]
      refine ⟨v, ?_, r⟩
      rw [← hl]; simp
    · simp only [if_neg e]
      by_cases l : es.length < i
      · rw [if_pos l]
        have : (es ++ [some (d, md)])[i]? = none := by rw [List.getElem?_eq_none_iff]; simp; omega
        rw [this]; rfl
      · rw [if_neg l]
        have l' : i < es.length := by omega
        rw [List.getElem?_append_left l', List.getElem?_append_left (by omega)]
        exact h1 i
  · dsimp only
    split
    · exact nd
    · split
      · exact List.nodup_nil
      · exact h2 i
  · dsimp only at ha hb
    split at ha
    · split at hb
      · omega
      · split at hb
        · exact absurd hb List.not_mem_nil
        · exact absurd hb (nw j a ha)
    · split at ha
      · exact absurd ha List.not_mem_nil
      · split at hb
        · exact absurd ha (nw i a hb)
        · split at hb
          · exact absurd hb List.not_mem_nil
          · exact h3 i j a ha hb
  · dsimp only at ha
    split at ha
    · exact ap a ha
    · split at ha
      · exact absurd ha List.not_mem_nil
      · exact h4 i a ha
/-- a new list or dict of things that nobody changes, this root's alone -/
theorem StD.allocPush (S : StD K G F0 F H vs es) (hl : vs.length = es.length) {p : Addr} {o : HO} {m : Mask} (hp : H p = none) (no : ∀ xs, o ≠ .tup xs ∧ ∀ z, o ≠ .frz z (.tup xs)) (r : Ow K F (upd H p o) m (.ref p) d [p]) :
    StD K G F0 F (upd H p o) (vs ++ [some (.ref p)]) (es ++ [some (d, .own m)]) := by
  have S' := S.alloc hp no
  obtain ⟨A, h1, h2, h3, h4⟩ := S.rts
  refine S'.pushA hl (md := .own m) r (by simp) (fun a ha => ?_) A (fun i => (h1 i).imp fun v d md _ => Rt.mono (fun _ _ e => e) (same_upd hp)) h2 h3 h4 fun i a ha hA => ?_
  · rw [List.mem_singleton.mp ha]; exact ⟨S.fnone hp, S.gnone hp⟩
  · rw [List.mem_singleton.mp ha] at hA
    obtain ⟨u, e⟩ := (h1 i).there _ hA
    rw [hp] at e; cases e
/-- .. that owns nothing -/
theorem StD.push0 (S : StD K G F0 F H vs es) (hl : vs.length = es.length) {md : Md} (r : Rt K G F H v d md []) : StD K G F0 F H (vs ++ [some v]) (es ++ [some (d, md)]) :=
  let ⟨A, h1, h2, h3, h4⟩ := S.rts
  S.pushA hl r List.nodup_nil (fun a ha => absurd ha List.not_mem_nil) A h1 h2 h3 h4 fun _ a ha => absurd ha List.not_mem_nil
theorem StD.pushF (S : StD K G F0 F H vs es) (hl : vs.length = es.length) (r : Dv K F v d) : StD K G F0 F H (vs ++ [some v]) (es ++ [some (d, .frz)]) := S.push0 hl (md := .frz) ⟨r, rfl⟩
end
theorem StD.freeze {K : PySem.W.Frag} {G F0 F H : Hp} {vs : List (Option V)} {es : Env} {i : Nat} {d : D} {m : Mask} (S : StD K G F0 F H vs es) (e : es[i]? = some (some (d, .own m))) :
    ∃ F', Same F F' ∧ StD K G F0 F' H vs (es.set i (some (d, .frz))) ∧ ∃ v, vs[i]? = some (some v) ∧ Dv K F' v d := by
  obtain ⟨A, h1, h2, h3, h4⟩ := S.rts
  have hi : i < es.length := (List.getElem?_eq_some_iff.mp e).1
  have r := h1 i
  rw [e] at r
  obtain ⟨v, hv, ow⟩ := r
  have ow' : Ow K F H m v d (A i) := ow
  let F' : Hp := fun a => if a ∈ A i then H a else F a
  have eF : Same F F' := fun a o q => by
    show (if a ∈ A i then H a else F a) = some o
    by_cases ha : a ∈ A i
    · rw [(h4 i a ha).1] at q; cases q
    · rw [if_neg ha]; exact q
  have fin : ∀ a o, F' a = some o → (a ∈ A i ∧ H a = some o) ∨ (a ∉ A i ∧ F a = some o) := fun a o q => by
    have q' : (if a ∈ A i then H a else F a) = some o := q
    by_cases ha : a ∈ A i
    · rw [if_pos ha] at q'; exact .inl ⟨ha, q'⟩
    · rw [if_neg ha] at q'; exact .inr ⟨ha, q'⟩
  have fH : Same F' H := fun a o q => by
    rcases fin a o q with ⟨_, q⟩ | ⟨_, q⟩
    · exact q
    · exact S.fh _ _ q
  have dv : Dv K F' v d := Ow.dv eF ow' fun a o ha q => by
    show (if a ∈ A i then H a else F a) = some o
    rw [if_pos ha]; exact q
  refine ⟨F', eF, ⟨S.gh, fH, fun a o q => eF _ _ (S.f0 _ _ q), fun a o q => ?_, fun a xs q => ?_, fun j => if j = i then [] else A j, fun j => ?_, fun j => ?_, fun j k a ha hb => ?_, fun j a ha => ?_⟩, v, hv, dv⟩
  · rcases fin a o q with ⟨ha, _⟩ | ⟨_, q⟩
    · exact .inr (h4 i a ha).2
    · exact S.fg a o q
  · rcases S.tu a xs q with q | ⟨z, q⟩
    · exact .inl (eF _ _ q)
    · exact .inr ⟨z, eF _ _ q⟩
  · dsimp only
    by_cases hj : j = i
    · subst hj
      rw [if_pos rfl, List.getElem?_set_self hi]
      exact ⟨v, hv, dv, rfl⟩
    · rw [if_neg hj, List.getElem?_set_ne (Ne.symm hj)]
      exact (h1 j).imp fun v d md _ => Rt.mono eF fun _ _ q => q
  · dsimp only
    split
    · exact List.nodup_nil
    · exact h2 j
  · dsimp only at ha hb
    split at ha
    · exact absurd ha List.not_mem_nil
    · split at hb
      · exact absurd hb List.not_mem_nil
      · exact h3 j k a ha hb
  · dsimp only at ha
    split at ha
    · exact absurd ha List.not_mem_nil
    · rename_i hj
      refine ⟨?_, (h4 j a ha).2⟩
      show (if a ∈ A i then H a else F a) = none
      rw [if_neg fun q => hj (h3 j i a ha q)]
      exact (h4 j a ha).1
end DL
/-! D layer, part 1: the judgements; expressions. -/
namespace DL
open PySem PySem.Spec PyProof.Rows L2

/-- an exception as data: its class, its own fields -/
structure XD where
  cls : Value
  fs : List (Str × D) := []
/-- what is wanted of a value; of an exception -/
abbrev DQ := D → Md → Env → Prop
abbrev DX := XD → Env → Prop
/-- an expression, by data -/
abbrev DE := Env → DQ → DX → Prop
def NoView (te : Env) : Prop := ∀ p ∈ te, ∀ d md, p = some (d, md) → md.noview = true
theorem NoView.nil : NoView [] := fun _ h => absurd h List.not_mem_nil
theorem NoView.snoc {te : Env} (h : NoView te) {d : D} {md : Md} (hm : md.noview = true) : NoView (te ++ [some (d, md)]) := fun p hp d' md' e => by
  rcases List.mem_append.mp hp with hp | hp
  · exact h p hp d' md' e
  · rw [List.mem_singleton.mp hp] at e; cases e; exact hm
def XR (K : PySem.W.Frag) (F H : Hp) (x : XD) (cls : Value) (dx : Option Addr) : Prop :=
  cls = x.cls ∧ (x.fs = [] ∨ ∃ d fv, dx = some d ∧ H d = some (.xd fv) ∧ fv.map Prod.fst = x.fs.map Prod.fst ∧ DvA K F (fv.map Prod.snd) (x.fs.map Prod.snd))
/-- the wish W of the code takes the exceptions Ex -/
def WOk (K : PySem.W.Frag) (W : WX) (G F0 : Hp) (tv : List (Option V)) (te : Env) (Ex : DX) : Prop :=
  ∃ (tv0 r1 : List (Option V)) (te0 r2 : Env), tv = tv0 ++ r1 ∧ te = te0 ++ r2 ∧ tv0.length = te0.length ∧
  ∀ (x : XD) (env' : Env) (cls : Value) (dx : Option Addr) (σ' : L2.St) (F' H' : Hp), Ex x env' → env'.length = σ'.length → StD K G F0 F' H' (σ' ++ tv0) (env' ++ te0) → XR K F' H' x cls dx → W cls dx σ' H'
theorem WOk.more {K : PySem.W.Frag} {W : WX} {G F0 : Hp} {tv : List (Option V)} {te : Env} {Ex : DX} (h : WOk K W G F0 tv te Ex) (a : List (Option V)) (b : Env) : WOk K W G F0 (tv ++ a) (te ++ b) Ex := by
  obtain ⟨tv0, r1, te0, r2, rfl, rfl, l, k⟩ := h
  exact ⟨tv0, r1 ++ a, te0, r2 ++ b, List.append_assoc _ _ _, List.append_assoc _ _ _, l, k⟩
theorem WOk.snoc {K : PySem.W.Frag} {W : WX} {G F0 : Hp} {tv : List (Option V)} {te : Env} {Ex : DX} (h : WOk K W G F0 tv te Ex) {a : Option V} {b : Slot} : WOk K W G F0 (tv ++ [a]) (te ++ [b]) Ex := h.more _ _

/-- the reading of a data reading -/
def tD (K : PySem.W.Frag) (W : WX) (p : Bool) (m : DE) : TE := fun σ H Q => ∃ (G F0 F : Hp) (env : Env) (tv : List (Option V)) (te : Env) (R : DQ) (Ex : DX),
  StD K G F0 F H (σ ++ tv) (env ++ te) ∧ env.length = σ.length ∧ tv.length = te.length ∧ (p = true ∨ NoView te) ∧ WOk K W G F0 tv te Ex ∧ m env R Ex ∧
  ∀ (v : V) (d : D) (md : Md) (F' H' : Hp) (env' : Env), R d md env' → env'.length = σ.length → StD K G F0 F' H' (σ ++ (tv ++ [some v])) (env' ++ (te ++ [some (d, md)])) → Q v H'
def PD (X : Cx) (W : WX) (p : Bool) (e : Expr) (m : DE) : Prop := PE X e (tD X.K W p m)

theorem PE.imp {X : Cx} {e : Expr} {t t' : TE} (h : PE X e t) (k : ∀ σ H Q, t' σ H Q → t σ H Q) : PE X e t' := ⟨fun pins s σ H Q I q => h.run pins s σ H Q I (k σ H Q q)⟩

section
variable {K : PySem.W.Frag} {G F0 F F' H H' : Hp} {vs vs' : List (Option V)} {es es' : Env} {v : V} {d : D}

/-! ### places in two rows -/
theorem get_snoc {α : Type} {l r : List α} {x : α} {n : Nat} (h : n = l.length + r.length) : (l ++ (r ++ [x]))[n]? = some x := by
  rw [← List.append_assoc, h, ← List.length_append]; simp
theorem get_left {α : Type} {l r : List α} {i : Nat} {x : α} (h : l[i]? = some x) : (l ++ r)[i]? = some x := by
  rw [List.getElem?_append_left (List.getElem?_eq_some_iff.mp h).1]; exact h
/-- the last root, where it lies -/
theorem StD.last {σ : List (Option V)} {env te : Env} {tv : List (Option V)} {v : V} {md : Md} (S : StD K G F0 F H (σ ++ (tv ++ [some v])) (env ++ (te ++ [some (d, md)]))) (h1 : env.length = σ.length) (h2 : tv.length = te.length) :
    ∃ as, Rt K G F H v d md as := by
  have e1 : (env ++ (te ++ [some (d, md)]))[env.length + te.length]? = some (some (d, md)) := get_snoc rfl
  obtain ⟨v', as, e2, r⟩ := S.getR e1
  have e3 : (σ ++ (tv ++ [some v]))[env.length + te.length]? = some (some v) := get_snoc (by omega)
  rw [e3] at e2; cases e2
  exact ⟨as, r⟩
theorem StD.lastV {σ : List (Option V)} {env te : Env} {tv : List (Option V)} {v : V} {md : Md} (S : StD K G F0 F H (σ ++ (tv ++ [some v])) (env ++ (te ++ [some (d, md)]))) (h1 : env.length = σ.length) (h2 : tv.length = te.length) :
    Dv K H v d := let ⟨_, r⟩ := S.last h1 h2; r.dv S.fh S.gh
/-- roots behind are dropped -/
theorem StD.reix' {σ : List (Option V)} {env te : Env} {tv : List (Option V)} {x : Option V} {e : Slot} (S : StD K G F0 F H (σ ++ (tv ++ [x])) (env ++ (te ++ [e]))) (h1 : env.length = σ.length) (h2 : tv.length = te.length) : StD K G F0 F H (σ ++ tv) (env ++ te) :=
  S.reix id (fun _ _ _ _ e => e) fun i p e => by
    rw [← List.append_assoc, ← List.append_assoc]
    have hi : i < (env ++ te).length := (List.getElem?_eq_some_iff.mp e).1
    refine ⟨by simp only [id]; rw [List.getElem?_append_left hi]; exact e, ?_⟩
    simp only [id]
    rw [List.getElem?_append_left (show i < (σ ++ tv).length by simp at hi ⊢; omega)]
theorem StD.drop {l r : List (Option V)} {a b : Env} (S : StD K G F0 F H (l ++ r) (a ++ b)) (h : l.length = a.length) : StD K G F0 F H l a :=
  S.reix id (fun _ _ _ _ e => e) fun i p e => ⟨get_left e, by
    have : i < l.length := by rw [h]; exact (List.getElem?_eq_some_iff.mp e).1
    simp only [id]
    rw [List.getElem?_append_left this]⟩
theorem WOk.use {W : WX} {tv : List (Option V)} {te : Env} {Ex : DX} (h : WOk K W G F0 tv te Ex) {x : XD} {env' : Env} {cls : Value} {dx : Option Addr} {σ' : L2.St} (hx : Ex x env') (l : env'.length = σ'.length) (S : StD K G F0 F H (σ' ++ tv) (env' ++ te)) (r : XR K F H x cls dx) : W cls dx σ' H := by
  obtain ⟨tv0, r1, te0, r2, rfl, rfl, l0, k⟩ := h
  exact k x env' cls dx σ' F H hx l (StD.drop (by simpa [List.append_assoc] using S) (by simp [l, l0])) r
end

/-! ### names and constants -/
/-- slot i is read -/
def dSlot (i : Nat) : DE := fun env R _ => match env[i]? with
  | some (some (d, .frz)) => R d .frz env
  | some (some (d, .lent)) => R d .lent env
  | some (some (d, .own m)) => R d (vw m) env
  | some (some (d, .brw m _)) => R d (vw m) env
  | _ => False
/-- .. and its thing is from now on nobody's alone -/
def dSlotF (i : Nat) : DE := fun env R _ => match env[i]? with
  | some (some (d, .frz)) => R d .frz env
  | some (some (d, .lent)) => R d .lent env
  | some (some (d, .own _)) => R d .frz (env.set i (some (d, .frz)))
  | _ => False
/-- .. is handed on, the slot is empty from now on -/
def dMove (i : Nat) : DE := fun env R _ => match env[i]? with
  | some (some (d, .own m)) => R d (.own m) (env.set i none)
  | some (some (d, .frz)) => R d .frz env
  | some (some (d, .lent)) => R d .lent env
  | _ => False
@[simp ↓] def dC (d : D) : DE := fun env R _ => R d .frz env

section
variable {X : Cx} {W : WX} {p p1 p2 : Bool}
theorem pd_of {e : Expr} {m : DE} {t : TE} (h : PE X e t)
    (k : ∀ (G F0 F H : Hp) (σ : L2.St) (env : Env) (tv : List (Option V)) (te : Env) (R : DQ) (Ex : DX) (Q : VK), StD X.K G F0 F H (σ ++ tv) (env ++ te) → env.length = σ.length → tv.length = te.length → (p = true ∨ NoView te) → WOk X.K W G F0 tv te Ex → m env R Ex →
      (∀ (v : V) (d : D) (md : Md) (F' H' : Hp) (env' : Env), R d md env' → env'.length = σ.length → StD X.K G F0 F' H' (σ ++ (tv ++ [some v])) (env' ++ (te ++ [some (d, md)])) → Q v H') → t σ H Q) : PD X W p e m :=
  PE.imp h fun σ H Q ⟨G, F0, F, env, tv, te, R, Ex, S, l1, l2, nv, wo, hm, hk⟩ => k G F0 F H σ env tv te R Ex Q S l1 l2 nv wo hm hk
theorem assoc3 {α : Type} {a b c : List α} : a ++ (b ++ c) = (a ++ b) ++ c := (List.append_assoc a b c).symm
theorem pushF2 {K : PySem.W.Frag} {G F0 F H : Hp} {σ : L2.St} {env te : Env} {tv : List (Option V)} {v : V} {d : D} (S : StD K G F0 F H (σ ++ tv) (env ++ te)) (l1 : env.length = σ.length) (l2 : tv.length = te.length) (r : Dv K F v d) :
    StD K G F0 F H (σ ++ (tv ++ [some v])) (env ++ (te ++ [some (d, .frz)])) := by
  rw [assoc3, assoc3]; exact S.pushF (by simp [l1, l2]) r
theorem push02 {K : PySem.W.Frag} {G F0 F H : Hp} {σ : L2.St} {env te : Env} {tv : List (Option V)} {v : V} {d : D} {md : Md} (S : StD K G F0 F H (σ ++ tv) (env ++ te)) (l1 : env.length = σ.length) (l2 : tv.length = te.length) (r : Rt K G F H v d md []) :
    StD K G F0 F H (σ ++ (tv ++ [some v])) (env ++ (te ++ [some (d, md)])) := by
  rw [assoc3, assoc3]; exact S.push0 (by simp [l1, l2]) r
theorem pd_const {e : Expr} {v : V} {d : D} (h : PE X e (tC v)) (r : ∀ F, Dv X.K F v d) : PD X W true e (dC d) :=
  pd_of h fun G F0 F H σ env tv te R Ex Q S l1 l2 _ _ hm hk => hk v d .frz F H env hm l1 (pushF2 S l1 l2 (r F))
theorem pd_int {i : Int} {j : Nat} {pos : Pos} : PD X W true (.Constant (.int i) j pos) (dC (.int i)) := pd_const pe_int fun _ => .int i
theorem pd_bl {b : Bool} {j : Nat} {pos : Pos} : PD X W true (.Constant (.bool b) j pos) (dC (.bl b)) := pd_const pe_bl fun _ => .bl b
theorem pd_non {j : Nat} {pos : Pos} : PD X W true (.Constant .none j pos) (dC .non) := pd_const pe_non fun _ => .non
theorem pd_str {x : Str} {j : Nat} {pos : Pos} : PD X W true (.Constant (.str x) j pos) (dC (.str x)) := pd_const pe_str fun _ => .str x
/-- what the module's name x holds -/
structure GlD (X : Cx) (x : Str) (d : D) : Prop where
  ex : ∃ (u : Value) (v : V), X.mg x = some u ∧ RelV v u ∧ ∀ F, Dv X.K F v d
theorem pd_glob {x : Str} {pos : Pos} {d : D} (g : GlD X x d) (hg : Gl X x) (hd : (x == ("__debug__" : Str)) = false := by decide) : PD X W true (.Name x pos) (dC d) := by
  obtain ⟨u, v, hm, r, h⟩ := g.ex
  exact pd_const (pe_glob hg hm r hd) h
theorem slot_root {K : PySem.W.Frag} {G F0 F H : Hp} {σ : L2.St} {env te : Env} {tv : List (Option V)} {i : Nat} {d : D} {md : Md} (S : StD K G F0 F H (σ ++ tv) (env ++ te)) (l1 : env.length = σ.length) (e : env[i]? = some (some (d, md))) :
    ∃ v as, σ[i]? = some (some v) ∧ Rt K G F H v d md as := by
  obtain ⟨v, as, h, r⟩ := S.getR (get_left (r := te) e)
  have hi : i < σ.length := by rw [← l1]; exact (List.getElem?_eq_some_iff.mp e).1
  rw [List.getElem?_append_left hi] at h
  exact ⟨v, as, h, r⟩
theorem pd_slot (i : Nat) {x : Str} {pos : Pos} (hN : X.N[i]? = some x := by rfl) (hv : Vis X.env.scope x := by first | exact Or.inl rfl | exact Or.inr (Or.inl rfl) | exact Or.inr (Or.inr rfl)) (hd : (x == ("__debug__" : Str)) = false := by decide)
    (hcd : (x == ("__classdict__" : Str)) = false := by decide) : PD X W true (.Name x pos) (dSlot i) := by
  refine pd_of (pe_var hN hv hd hcd) fun G F0 F H σ env tv te R Ex Q S l1 l2 _ _ hm hk => ?_
  unfold dSlot at hm
  split at hm
  · rename_i d e
    obtain ⟨v, as, h, r⟩ := slot_root S l1 e
    exact ⟨v, h, hk v d .frz F H env hm l1 (pushF2 S l1 l2 r.1)⟩
  · rename_i d e
    obtain ⟨v, as, h, r⟩ := slot_root S l1 e
    exact ⟨v, h, hk v d .lent F H env hm l1 (push02 S l1 l2 (md := .lent) ⟨r.1, rfl⟩)⟩
  · rename_i d m e
    obtain ⟨v, as, h, r⟩ := slot_root S l1 e
    exact ⟨v, h, hk v d _ F H env hm l1 (push02 S l1 l2 (Rt.vw (show Ow X.K F H m v d as from r)))⟩
  · rename_i d m v0 e
    obtain ⟨v, as, h, r⟩ := slot_root S l1 e
    exact ⟨v, h, hk v d _ F H env hm l1 (push02 S l1 l2 (Rt.vw (show Ow X.K F H m v d as from r.2)))⟩
  · exact hm.elim

theorem set_left {α : Type} {l r : List α} {i : Nat} {x : α} (h : i < l.length) : (l ++ r).set i x = l.set i x ++ r := by
  rw [List.set_append_left _ _ h]
theorem pd_slotF (i : Nat) {x : Str} {pos : Pos} (hN : X.N[i]? = some x := by rfl) (hv : Vis X.env.scope x := by first | exact Or.inl rfl | exact Or.inr (Or.inl rfl) | exact Or.inr (Or.inr rfl)) (hd : (x == ("__debug__" : Str)) = false := by decide)
    (hcd : (x == ("__classdict__" : Str)) = false := by decide) : PD X W true (.Name x pos) (dSlotF i) := by
  refine pd_of (pe_var hN hv hd hcd) fun G F0 F H σ env tv te R Ex Q S l1 l2 _ _ hm hk => ?_
  unfold dSlotF at hm
  split at hm
  · rename_i d e
    obtain ⟨v, as, h, r⟩ := slot_root S l1 e
    exact ⟨v, h, hk v d .frz F H env hm l1 (pushF2 S l1 l2 r.1)⟩
  · rename_i d e
    obtain ⟨v, as, h, r⟩ := slot_root S l1 e
    exact ⟨v, h, hk v d .lent F H env hm l1 (push02 S l1 l2 (md := .lent) ⟨r.1, rfl⟩)⟩
  · rename_i d m e
    obtain ⟨v, as, h, r⟩ := slot_root S l1 e
    obtain ⟨F', eF, S', v', hv', dv⟩ := S.freeze (get_left (r := te) e)
    have hi : i < env.length := (List.getElem?_eq_some_iff.mp e).1
    rw [set_left hi] at S'
    rw [List.getElem?_append_left (by omega), h] at hv'
    cases hv'
    exact ⟨v, h, hk v d .frz F' H (env.set i (some (d, .frz))) hm (by simpa using l1) (pushF2 S' (by simpa using l1) l2 dv)⟩
  · exact hm.elim
theorem pd_move (i : Nat) {x : Str} {pos : Pos} (hN : X.N[i]? = some x := by rfl) (hv : Vis X.env.scope x := by first | exact Or.inl rfl | exact Or.inr (Or.inl rfl) | exact Or.inr (Or.inr rfl)) (hd : (x == ("__debug__" : Str)) = false := by decide)
    (hcd : (x == ("__classdict__" : Str)) = false := by decide) : PD X W true (.Name x pos) (dMove i) := by
  refine pd_of (pe_var hN hv hd hcd) fun G F0 F H σ env tv te R Ex Q S l1 l2 _ _ hm hk => ?_
  unfold dMove at hm
  split at hm
  · rename_i d m e
    obtain ⟨v, as, h, r⟩ := slot_root S l1 e
    have hi : i < env.length := (List.getElem?_eq_some_iff.mp e).1
    refine ⟨v, h, hk v d (.own m) F H (env.set i none) hm (by simpa using l1) ?_⟩
    refine S.reix (fun j => if j = env.length + te.length then i else j) (fun j k hj hk e => ?_) fun j q e1 => ?_
    · obtain ⟨p, hp⟩ := hj
      obtain ⟨p', hp'⟩ := hk
      have ne : ∀ {k p}, (env.set i none ++ (te ++ [some (d, Md.own m)]))[k]? = some (some p) → k ≠ i := fun {k p} hp z => by
        subst z
        rw [List.getElem?_append_left (by simpa using hi), List.getElem?_set_self hi] at hp
        cases hp
      split at e
      · split at e
        · omega
        · exact absurd e.symm (ne hp')
      · split at e
        · exact absurd e (ne hp)
        · exact e
    · by_cases hj : j = env.length + te.length
      · subst hj
        have e2 : (env.set i none ++ (te ++ [some (d, Md.own m)]))[env.length + te.length]? = some (some (d, Md.own m)) := get_snoc (by simp)
        rw [e2] at e1; cases e1
        rw [if_pos rfl, get_snoc (by omega)]
        refine ⟨get_left e, ?_⟩
        rw [List.getElem?_append_left (by omega)]; exact h.symm
      · rw [if_neg hj]
        by_cases lj : j < env.length
        · rw [List.getElem?_append_left (by simpa using lj)] at e1
          have ji : j ≠ i := fun z => by subst z; rw [List.getElem?_set_self hi] at e1; cases e1
          rw [List.getElem?_set_ne (Ne.symm ji)] at e1
          refine ⟨get_left e1, ?_⟩
          rw [List.getElem?_append_left (by omega), List.getElem?_append_left (by omega)]
        · have lt : j < env.length + te.length := by
            have := (List.getElem?_eq_some_iff.mp e1).1
            simp at this; omega
          rw [List.getElem?_append_right (by simpa using Nat.le_of_not_lt lj), List.getElem?_append_left (by simp; omega)] at e1
          refine ⟨?_, ?_⟩
          · rw [List.getElem?_append_right (Nat.le_of_not_lt lj)]; simpa using e1
          · rw [assoc3, List.getElem?_append_left (by simp; omega)]
  · rename_i d e
    obtain ⟨v, as, h, r⟩ := slot_root S l1 e
    exact ⟨v, h, hk v d .frz F H env hm l1 (pushF2 S l1 l2 r.1)⟩
  · rename_i d e
    obtain ⟨v, as, h, r⟩ := slot_root S l1 e
    exact ⟨v, h, hk v d .lent F H env hm l1 (push02 S l1 l2 (md := .lent) ⟨r.1, rfl⟩)⟩
  · exact hm.elim

/-! ### two expressions in a row, an operation on values -/
/-- what an operation does to data: the two, what is wanted of the result -/
abbrev DR2 := D → Md → D → Md → (D → Md → Prop) → Prop
@[simp ↓] def viewOk (p2 : Bool) (mx : Md) : Prop := p2 = true ∨ mx.noview = true
@[simp ↓] def dBin (p2 : Bool) (ma mb : DE) (δ : DR2) : DE := fun env R Ex => ma env (fun x mx e1 => viewOk p2 mx ∧ mb e1 (fun y my e2 => δ x mx y my fun d md => R d md e2) Ex) Ex
/-- r, of values, does what δ tells of data -/
def OpD (K : PySem.W.Frag) (r : R2) (δ : DR2) : Prop := ∀ (G F0 F H : Hp) (vs : List (Option V)) (es : Env) (x y : V) (dx dy : D) (mx my : Md) (Q : VK) (R : D → Md → Prop), vs.length = es.length →
  StD K G F0 F H (vs ++ [some x, some y]) (es ++ [some (dx, mx), some (dy, my)]) → δ dx mx dy my R →
  (∀ (v : V) (d : D) (md : Md) (F' H' : Hp), R d md → StD K G F0 F' H' (vs ++ [some v]) (es ++ [some (d, md)]) → Q v H') → r x y H Q
theorem tOp_D {K : PySem.W.Frag} {W : WX} {p1 p2 : Bool} {ma mb : DE} {δ : DR2} {r : R2} (ho : OpD K r δ) {σ : L2.St} {H : Hp} {Q : VK} (h : tD K W (p1 && p2) (dBin p2 ma mb δ) σ H Q) : tOp r (tD K W p1 ma) (tD K W p2 mb) σ H Q := by
  obtain ⟨G, F0, F, env, tv, te, R, Ex, S, l1, l2, nv, wo, hm, hk⟩ := h
  refine ⟨G, F0, F, env, tv, te, _, Ex, S, l1, l2, ?_, wo, hm, fun x dx mx F1 H1 env1 q1 l3 S1 => ?_⟩
  · rcases nv with nv | nv
    · rw [Bool.and_eq_true] at nv; exact .inl nv.1
    · exact .inr nv
  obtain ⟨vo, q1⟩ := q1
  refine ⟨G, F0, F1, env1, tv ++ [some x], te ++ [some (dx, mx)], _, Ex, S1, l3, by simp [l2], ?_, wo.snoc, q1, fun y dy my F2 H2 env2 q2 l4 S2 => ?_⟩
  · rcases vo with vo | vo
    · exact .inl vo
    · rcases nv with nv | nv
      · rw [Bool.and_eq_true] at nv; exact .inl nv.2
      · exact .inr (nv.snoc vo)
  refine ho G F0 F2 H2 (σ ++ tv) (env2 ++ te) x y dx dy mx my Q _ (by simp [l4, l2]) (by simpa [List.append_assoc] using S2) q2 fun v d md F' H' q S3 => ?_
  exact hk v d md F' H' env2 q l4 (by simpa [List.append_assoc] using S3)
theorem pd_op {op : Operator} {a b : Expr} {pos : Pos} {ma mb : DE} {r : R2} {δ : DR2} (ho : OpR X (binaryOp op) r) (hd : OpD X.K r δ) (ha : PD X W p1 a ma) (hb : PD X W p2 b mb) : PD X W (p1 && p2) (.BinOp a op b pos) (dBin p2 ma mb δ) :=
  PE.imp (pe_op ho ha hb) fun _ _ _ h => tOp_D hd h
theorem pd_cmp {op : CmpOp} {a b : Expr} {pos : Pos} {ma mb : DE} {r : R2} {δ : DR2} (ho : OpR X (compareOp op) r) (hd : OpD X.K r δ) (ha : PD X W p1 a ma) (hb : PD X W p2 b mb) (hm : behindInMarks op b = false := by rfl) : PD X W (p1 && p2) (.Compare a [op] [b] pos) (dBin p2 ma mb δ) :=
  PE.imp (pe_cmpR ho ha hb hm) fun _ _ _ h => tOp_D hd h
theorem StD.two {K : PySem.W.Frag} {G F0 F H : Hp} {vs : List (Option V)} {es : Env} {x y : V} {dx dy : D} {mx my : Md} (S : StD K G F0 F H (vs ++ [some x, some y]) (es ++ [some (dx, mx), some (dy, my)])) (hl : vs.length = es.length) :
    Dv K H x dx ∧ Dv K H y dy := by
  obtain ⟨v1, e1, d1⟩ := S.get (i := es.length) (d := dx) (md := mx) (by simp)
  obtain ⟨v2, e2, d2⟩ := S.get (i := es.length + 1) (d := dy) (md := my) (by simp)
  rw [← hl] at e1 e2
  simp at e1 e2
  subst e1 e2
  exact ⟨d1, d2⟩
/-- the two roots are gone, a flat value has come -/
theorem StD.done {K : PySem.W.Frag} {G F0 F H : Hp} {vs : List (Option V)} {es : Env} {x y v : V} {sx sy : Slot} {d : D} (S : StD K G F0 F H (vs ++ [some x, some y]) (es ++ [sx, sy])) (hl : vs.length = es.length) (r : Dv K F v d) :
    StD K G F0 F H (vs ++ [some v]) (es ++ [some (d, .frz)]) := (S.drop hl).pushF hl r
/-- ints -/
@[simp ↓] def δI (C : Int → Int → Prop) (g : Int → Int → D) : DR2 := fun x _ y _ R => match x, y with
  | .int i, .int j => C i j ∧ R (g i j) .frz
  | _, _ => False
theorem od_I {K : PySem.W.Frag} {C : Int → Int → Prop} {gv : Int → Int → V} {g : Int → Int → D} (h : ∀ F i j, Dv K F (gv i j) (g i j)) : OpD K (rI C gv) (δI C g) := by
  intro G F0 F H vs es x y dx dy mx my Q R hl S hδ hk
  obtain ⟨d1, d2⟩ := S.two hl
  unfold δI at hδ
  split at hδ
  · cases d1; cases d2
    exact ⟨_, _, rfl, rfl, hδ.1, hk _ _ _ F H hδ.2 (S.done hl (h F _ _))⟩
  · exact hδ.elim
theorem od_I0 {K : PySem.W.Frag} {gv : Int → Int → V} {g : Int → Int → D} (h : ∀ F i j, Dv K F (gv i j) (g i j)) : OpD K (rI0 gv) (δI (fun _ _ => True) g) := by
  intro G F0 F H vs es x y dx dy mx my Q R hl S hδ hk
  obtain ⟨d1, d2⟩ := S.two hl
  unfold δI at hδ
  split at hδ
  · cases d1; cases d2
    exact ⟨_, _, rfl, rfl, hk _ _ _ F H hδ.2 (S.done hl (h F _ _))⟩
  · exact hδ.elim
section
variable {a b : Expr} {pos : Pos} {ma mb : DE}
theorem pd_sub (ha : PD X W p1 a ma) (hb : PD X W p2 b mb) : PD X W (p1 && p2) (.BinOp a .Sub b pos) (dBin p2 ma mb (δI (fun _ _ => True) fun i j => .int (i - j))) := pd_op op_sub (od_I0 fun _ _ _ => .int _) ha hb
theorem pd_addI (ha : PD X W p1 a ma) (hb : PD X W p2 b mb) : PD X W (p1 && p2) (.BinOp a .Add b pos) (dBin p2 ma mb (δI (fun _ _ => True) fun i j => .int (i + j))) := pd_op op_add (od_I0 fun _ _ _ => .int _) ha hb
theorem pd_mul (ha : PD X W p1 a ma) (hb : PD X W p2 b mb) : PD X W (p1 && p2) (.BinOp a .Mult b pos) (dBin p2 ma mb (δI CMulW fun i j => .int (i * j))) := pd_op op_mulW (od_I fun _ _ _ => .int _) ha hb
theorem pd_fdiv (ha : PD X W p1 a ma) (hb : PD X W p2 b mb) : PD X W (p1 && p2) (.BinOp a .FloorDiv b pos) (dBin p2 ma mb (δI CDivW fun i j => .int (i / j))) := pd_op op_fdivW (od_I fun _ _ _ => .int _) ha hb
theorem pd_mod (ha : PD X W p1 a ma) (hb : PD X W p2 b mb) : PD X W (p1 && p2) (.BinOp a .Mod b pos) (dBin p2 ma mb (δI (fun _ j => 0 < j) fun i j => .int (i % j))) := pd_op op_mod (od_I fun _ _ _ => .int _) ha hb
theorem pd_pow (ha : PD X W p1 a ma) (hb : PD X W p2 b mb) : PD X W (p1 && p2) (.BinOp a .Pow b pos) (dBin p2 ma mb (δI CPow fun i j => .int (i ^ j.toNat))) := pd_op op_pow (od_I fun _ _ _ => .int _) ha hb
theorem pd_lt (ha : PD X W p1 a ma) (hb : PD X W p2 b mb) : PD X W (p1 && p2) (.Compare a [.Lt] [b] pos) (dBin p2 ma mb (δI (fun _ _ => True) fun i j => .bl (decide (i < j)))) := pd_cmp op_lt (od_I0 fun _ _ _ => .bl _) ha hb (nobehind _ (by decide) (by decide))
theorem pd_le (ha : PD X W p1 a ma) (hb : PD X W p2 b mb) : PD X W (p1 && p2) (.Compare a [.LtE] [b] pos) (dBin p2 ma mb (δI (fun _ _ => True) fun i j => .bl (decide (i ≤ j)))) := pd_cmp op_le (od_I0 fun _ _ _ => .bl _) ha hb (nobehind _ (by decide) (by decide))
theorem pd_gt (ha : PD X W p1 a ma) (hb : PD X W p2 b mb) : PD X W (p1 && p2) (.Compare a [.Gt] [b] pos) (dBin p2 ma mb (δI (fun _ _ => True) fun i j => .bl (decide (j < i)))) := pd_cmp op_gt (od_I0 fun _ _ _ => .bl _) ha hb (nobehind _ (by decide) (by decide))
theorem pd_ge (ha : PD X W p1 a ma) (hb : PD X W p2 b mb) : PD X W (p1 && p2) (.Compare a [.GtE] [b] pos) (dBin p2 ma mb (δI (fun _ _ => True) fun i j => .bl (decide (j ≤ i)))) := pd_cmp op_ge (od_I0 fun _ _ _ => .bl _) ha hb (nobehind _ (by decide) (by decide))
end
end
end DL
/-! D layer, part 2: what may be taken; arguments, displays; tests, and, or; ==, is, places. -/
namespace DL
open PySem PySem.Spec PyProof.Rows L2

/-- may the thing be kept -/
@[simp ↓] def capB (d : D) : Md → Bool
  | .frz => true
  | .own _ => true
  | _ => flat d
section
variable {K : PySem.W.Frag} {G F0 F H : Hp} {vs : List (Option V)} {es : Env}
/-- a root that may be kept is nobody's alone from now on -/
theorem StD.cap {i : Nat} {d : D} {md : Md} (S : StD K G F0 F H vs es) (e : es[i]? = some (some (d, md))) (hc : capB d md = true) :
    ∃ F', Same F F' ∧ StD K G F0 F' H vs (es.set i (some (d, .frz))) ∧ ∃ v, vs[i]? = some (some v) ∧ Dv K F' v d := by
  have other : (md.noview = false ∨ True) → flat d = true ∨ md = .frz → (∀ m, md ≠ .own m) → ∃ F', Same F F' ∧ StD K G F0 F' H vs (es.set i (some (d, .frz))) ∧ ∃ v, vs[i]? = some (some v) ∧ Dv K F' v d := fun _ h no => by
    obtain ⟨v, as, hv, r⟩ := S.getR e
    have dv : Dv K F v d := by
      rcases h with h | h
      · exact (r.dv S.fh S.gh).flat_of S.tu h
      · subst h; exact r.1
    have hi : i < es.length := (List.getElem?_eq_some_iff.mp e).1
    refine ⟨F, fun _ _ q => q, ?_, v, hv, dv⟩
    obtain ⟨A, h1, h2, h3, h4⟩ := S.rts
    refine ⟨S.gh, S.fh, S.f0, S.fg, S.tu, fun j => if j = i then [] else A j, fun j => ?_, fun j => ?_, fun j k a ha hb => ?_, fun j a ha => ?_⟩
    · dsimp only
      by_cases hj : j = i
      · subst hj
        rw [if_pos rfl, List.getElem?_set_self hi]
        exact ⟨v, hv, dv, rfl⟩
      · rw [if_neg hj, List.getElem?_set_ne (Ne.symm hj)]
        exact h1 j
    · dsimp only
      split
      · exact List.nodup_nil
      · exact h2 j
    · dsimp only at ha hb
      split at ha
      · exact absurd ha List.not_mem_nil
      · split at hb
        · exact absurd hb List.not_mem_nil
        · exact h3 j k a ha hb
    · dsimp only at ha
      split at ha
      · exact absurd ha List.not_mem_nil
      · exact h4 j a ha
  cases md with
  | own m => exact S.freeze e
  | frz => exact other (.inr trivial) (.inr rfl) fun _ q => nomatch q
  | lent => exact other (.inr trivial) (.inl hc) fun _ q => nomatch q
  | view m => exact other (.inr trivial) (.inl hc) fun _ q => nomatch q
  | brw m v => exact other (.inr trivial) (.inl hc) fun _ q => nomatch q
theorem StD.capLast {x : V} {d : D} {md : Md} (S : StD K G F0 F H (vs ++ [some x]) (es ++ [some (d, md)])) (hl : vs.length = es.length) (hc : capB d md = true) : ∃ F', Same F F' ∧ StD K G F0 F' H vs es ∧ Dv K F' x d := by
  obtain ⟨F', eF, S', v, hv, dv⟩ := S.cap (i := es.length) (by simp) hc
  rw [← hl] at hv
  simp at hv
  subst hv
  refine ⟨F', eF, ?_, dv⟩
  rw [List.set_append_right _ _ (Nat.le_refl _)] at S'
  exact S'.drop hl
theorem StD.capAll : ∀ {xs : List V} {ds : List (D × Md)} {F : Hp} {vs : List (Option V)} {es : Env}, StD K G F0 F H (vs ++ xs.map some) (es ++ ds.map some) → vs.length = es.length → xs.length = ds.length → (ds.all fun p => capB p.1 p.2) = true →
    ∃ F', Same F F' ∧ StD K G F0 F' H vs es ∧ DvA K F' xs (ds.map Prod.fst)
  | [], [], F, vs, es, S, hl, _, _ => ⟨F, fun _ _ e => e, by simpa using S, .nil⟩
  | [], _ :: _, _, _, _, _, _, e, _ => by simp at e
  | _ :: _, [], _, _, _, _, _, e, _ => by simp at e
  | x :: xs, (d, md) :: ds, F, vs, es, S, hl, hn, hc => by
    simp only [List.all_cons, Bool.and_eq_true] at hc
    obtain ⟨F1, e1, S1, dv⟩ := StD.capAll (xs := xs) (ds := ds) (vs := vs ++ [some x]) (es := es ++ [some (d, md)]) (by simpa [List.append_assoc] using S) (by simp [hl]) (by simpa using hn) hc.2
    obtain ⟨F2, e2, S2, dx⟩ := S1.capLast hl hc.1
    exact ⟨F2, fun a o q => e2 _ _ (e1 _ _ q), S2, .cons dx (dv.mono e2)⟩
theorem StD.all : ∀ {xs : List V} {ds : List (D × Md)} {vs : List (Option V)} {es : Env}, StD K G F0 F H (vs ++ xs.map some) (es ++ ds.map some) → vs.length = es.length → xs.length = ds.length → DvA K H xs (ds.map Prod.fst)
  | [], [], _, _, _, _, _ => .nil
  | [], _ :: _, _, _, _, _, e => by simp at e
  | _ :: _, [], _, _, _, _, e => by simp at e
  | x :: xs, (d, md) :: ds, vs, es, S, hl, hn => by
    have S' : StD K G F0 F H ((vs ++ [some x]) ++ xs.map some) ((es ++ [some (d, md)]) ++ ds.map some) := by simpa [List.append_assoc] using S
    have q := StD.all S' (by simp [hl]) (by simpa using hn)
    have S1 := S'.drop (by simp [hl])
    obtain ⟨v, e, dv⟩ := S1.get (i := es.length) (d := d) (md := md) (by simp)
    rw [← hl] at e; simp at e; subst e
    exact .cons dv q
end

/-! ### arguments -/
abbrev DA := Env → (List (D × Md) → Env → Prop) → DX → Prop
def tDA (K : PySem.W.Frag) (W : WX) (p : Bool) (m : DA) : TA := fun σ H Q => ∃ (G F0 F : Hp) (env : Env) (tv : List (Option V)) (te : Env) (R : List (D × Md) → Env → Prop) (Ex : DX),
  StD K G F0 F H (σ ++ tv) (env ++ te) ∧ env.length = σ.length ∧ tv.length = te.length ∧ (p = true ∨ NoView te) ∧ WOk K W G F0 tv te Ex ∧ m env R Ex ∧
  ∀ (xs : List V) (ds : List (D × Md)) (F' H' : Hp) (env' : Env), R ds env' → env'.length = σ.length → xs.length = ds.length → StD K G F0 F' H' (σ ++ (tv ++ xs.map some)) (env' ++ (te ++ ds.map some)) → Q xs H'
def PDA (X : Cx) (W : WX) (p : Bool) (es : List Expr) (m : DA) : Prop := PA X es (tDA X.K W p m)
theorem PA.imp {X : Cx} {es : List Expr} {t t' : TA} (h : PA X es t) (k : ∀ σ H Q, t' σ H Q → t σ H Q) : PA X es t' := ⟨fun pos pins s σ H Q I q => h.run pos pins s σ H Q I (k σ H Q q)⟩
@[simp ↓] def dNil : DA := fun env R _ => R [] env
@[simp ↓] def dCons (p2 : Bool) (ma : DE) (mb : DA) : DA := fun env R Ex => ma env (fun x mx e1 => viewOk p2 mx ∧ mb e1 (fun ys e2 => R ((x, mx) :: ys) e2) Ex) Ex
section
variable {X : Cx} {W : WX} {p p1 p2 : Bool}
theorem pda_nil : PDA X W true [] dNil := PA.imp pa_nil fun σ H Q ⟨G, F0, F, env, tv, te, R, Ex, S, l1, l2, nv, wo, hm, hk⟩ => hk [] [] F H env hm l1 rfl (by simpa using S)
theorem pda_cons {e : Expr} {es : List Expr} {ma : DE} {mb : DA} (ha : PD X W p1 e ma) (hb : PDA X W p2 es mb) (hs : starEach (e :: es) X.env = (false, eval e X.env) :: starEach es X.env := by rfl) : PDA X W (p1 && p2) (e :: es) (dCons p2 ma mb) := by
  refine PA.imp (pa_cons ha hb hs) fun σ H Q ⟨G, F0, F, env, tv, te, R, Ex, S, l1, l2, nv, wo, hm, hk⟩ => ?_
  refine ⟨G, F0, F, env, tv, te, _, Ex, S, l1, l2, ?_, wo, hm, fun x dx mx F1 H1 env1 q1 l3 S1 => ?_⟩
  · rcases nv with nv | nv
    · rw [Bool.and_eq_true] at nv; exact .inl nv.1
    · exact .inr nv
  obtain ⟨vo, q1⟩ := q1
  refine ⟨G, F0, F1, env1, tv ++ [some x], te ++ [some (dx, mx)], _, Ex, S1, l3, by simp [l2], ?_, wo.snoc, q1, fun xs ds F2 H2 env2 q2 l4 ln S2 => ?_⟩
  · rcases vo with vo | vo
    · exact .inl vo
    · rcases nv with nv | nv
      · rw [Bool.and_eq_true] at nv; exact .inl nv.2
      · exact .inr (nv.snoc vo)
  exact hk (x :: xs) ((dx, mx) :: ds) F2 H2 env2 q2 l4 (by simp [ln]) (by simpa [List.append_assoc] using S2)

/-! ### displays -/
@[simp ↓] def dTup (m : DA) : DE := fun env R Ex => m env (fun ds e => ds.length ≤ sizeLine ∧ (ds.all fun p => capB p.1 p.2) = true ∧ R (.tup (ds.map Prod.fst)) .frz e) Ex
@[simp ↓] def dLst (m : DA) : DE := fun env R Ex => m env (fun ds e => ds.length ≤ sizeLine ∧ (ds.all fun p => capB p.1 p.2) = true ∧ R (.lst (ds.map Prod.fst)) (.own (.o .f)) e) Ex
theorem pd_tup {es : List Expr} {k : Nat} {pos : Pos} {m : DA} (h : PDA X W p es m) : PD X W p (.Tuple es k pos) (dTup m) := by
  refine pd_of (pe_tup h) fun G F0 F H σ env tv te R Ex Q S l1 l2 nv wo hm hk => ?_
  refine ⟨G, F0, F, env, tv, te, _, Ex, S, l1, l2, nv, wo, hm, fun xs ds F1 H1 env1 ⟨hz, hc, q⟩ l3 ln S1 => ⟨by omega, fun a ha => ?_⟩⟩
  obtain ⟨F2, eF, S2, dv⟩ := StD.capAll (vs := σ ++ tv) (es := env1 ++ te) (by simpa [List.append_assoc] using S1) (by simp [l3, l2]) ln hc
  have S3 := S2.allocF (o := .tup xs) ha
  refine hk _ _ _ _ _ env1 q l3 (pushF2 S3 l3 l2 (.tup (.inl (.inl upd_same)) (dv.mono (same_upd (S2.fnone ha)))))
theorem push_newL {K : PySem.W.Frag} {G F0 F H : Hp} {vs : List (Option V)} {es : Env} {xs : List V} {ds : List D} {a : Addr} (S : StD K G F0 F H vs es) (hl : vs.length = es.length) (ha : H a = none) (dv : DvA K F xs ds) :
    StD K G F0 F (upd H a (.lst xs)) (vs ++ [some (.ref a)]) (es ++ [some (.lst ds, .own (.o .f))]) :=
  S.allocPush hl ha (fun _ => ⟨fun q => (nomatch q), fun _ q => (nomatch q)⟩) (.lst upd_same (OwL.of_dv dv))
theorem pd_lst {es : List Expr} {pos : Pos} {m : DA} (h : PDA X W p es m) : PD X W p (.List es pos) (dLst m) := by
  refine pd_of (pe_lst h) fun G F0 F H σ env tv te R Ex Q S l1 l2 nv wo hm hk => ?_
  refine ⟨G, F0, F, env, tv, te, _, Ex, S, l1, l2, nv, wo, hm, fun xs ds F1 H1 env1 ⟨hz, hc, q⟩ l3 ln S1 => ⟨by omega, fun a ha => ?_⟩⟩
  obtain ⟨F2, eF, S2, dv⟩ := StD.capAll (vs := σ ++ tv) (es := env1 ++ te) (by simpa [List.append_assoc] using S1) (by simp [l3, l2]) ln hc
  have S3 := push_newL S2 (by simp [l3, l2]) ha dv
  exact hk _ _ _ F2 _ env1 q l3 (by simpa [List.append_assoc] using S3)

/-! ### calls of built-ins, by values -/
abbrev DRA := List (D × Md) → (D → Md → Prop) → Prop
def CallD (K : PySem.W.Frag) (r : List V → Hp → VK → Prop) (δ : DRA) : Prop := ∀ (G F0 F H : Hp) (vs : List (Option V)) (es : Env) (xs : List V) (ds : List (D × Md)) (Q : VK) (R : D → Md → Prop), vs.length = es.length → xs.length = ds.length →
  StD K G F0 F H (vs ++ xs.map some) (es ++ ds.map some) → δ ds R →
  (∀ (v : V) (d : D) (md : Md) (F' H' : Hp), R d md → StD K G F0 F' H' (vs ++ [some v]) (es ++ [some (d, md)]) → Q v H') → r xs H Q
@[simp ↓] def dBi (m : DA) (δ : DRA) : DE := fun env R Ex => m env (fun ds e => δ ds fun d md => R d md e) Ex
theorem tCB_D {K : PySem.W.Frag} {m : DA} {δ : DRA} {r : List V → Hp → VK → Prop} (hd : CallD K r δ) {σ : L2.St} {H : Hp} {Q : VK} (h : tD K W p (dBi m δ) σ H Q) : tCB r (tDA K W p m) σ H Q := by
  obtain ⟨G, F0, F, env, tv, te, R, Ex, S, l1, l2, nv, wo, hm, hk⟩ := h
  refine ⟨G, F0, F, env, tv, te, _, Ex, S, l1, l2, nv, wo, hm, fun xs ds F1 H1 env1 q l3 ln S1 => ?_⟩
  refine hd G F0 F1 H1 (σ ++ tv) (env1 ++ te) xs ds Q _ (by simp [l3, l2]) ln (by simpa [List.append_assoc] using S1) q fun v d md F' H' q' S2 => ?_
  exact hk v d md F' H' env1 q' l3 (by simpa [List.append_assoc] using S2)
theorem pd_callB {x : Str} {q pos : Pos} {e : Expr} {es : List Expr} {id : String} {m : DA} {δ : DRA} {r : List V → Hp → VK → Prop} (hd : CallD X.K r δ) (hc : CallR X (.builtin id) r) (hg : Gl X x) (hm : X.mg x = none) (hv : bootBuiltins x = some (.builtin id)) (ha : PDA X W p (e :: es) m)
    (hn : x ≠ "__name__" := by decide) (hdb : (x == ("__debug__" : Str)) = false := by decide)
    (he : starEach (e :: es) X.env = (false, eval e X.env) :: starEach es X.env := by rfl) (hpl : (backTo pos (starEach es X.env)).any (·.1) = false := by rfl) : PD X W p (.Call (.Name x q) (e :: es) [] pos) (dBi m δ) :=
  PE.imp (pe_callB hc hg hm hv ha hn hdb he hpl) fun _ _ _ h => tCB_D hd h
theorem pd_callT {x : Str} {q pos : Pos} {e : Expr} {es : List Expr} {T : String} {m : DA} {δ : DRA} {r : List V → Hp → VK → Prop} (hd : CallD X.K r δ) (hc : CallR X (.type T) r) (hg : Gl X x) (hm : X.mg x = none) (hv : bootBuiltins x = some (.type T)) (ha : PDA X W p (e :: es) m)
    (hn : x ≠ "__name__" := by decide) (hdb : (x == ("__debug__" : Str)) = false := by decide)
    (he : starEach (e :: es) X.env = (false, eval e X.env) :: starEach es X.env := by rfl) (hpl : (backTo pos (starEach es X.env)).any (·.1) = false := by rfl) : PD X W p (.Call (.Name x q) (e :: es) [] pos) (dBi m δ) :=
  PE.imp (pe_callTy hc hg hm hv ha hn hdb he hpl) fun _ _ _ h => tCB_D hd h
/-- one argument, a flat value back -/
@[simp ↓] def δ1 (f : D → Option D) (C : D → Prop) : DRA := fun ds R => match ds with
  | [(d, _)] => C d ∧ match f d with
    | some y => R y .frz
    | none => False
  | _ => False
theorem cd1 {K : PySem.W.Frag} {r : List V → Hp → VK → Prop} {f : D → Option D} {C : D → Prop} (h : ∀ (F H : Hp) (x : V) (d y : D) (Q : VK), Dv K H x d → C d → f d = some y → (∀ v, Dv K F v y → Q v H) → r [x] H Q) : CallD K r (δ1 f C) := by
  intro G F0 F H vs es xs ds Q R hl ln S hδ hk
  unfold δ1 at hδ
  split at hδ
  · rename_i d md
    obtain ⟨hc, hδ⟩ := hδ
    obtain ⟨x, rfl⟩ : ∃ x, xs = [x] := by
      cases xs with
      | nil => simp at ln
      | cons x t => cases t with
        | nil => exact ⟨x, rfl⟩
        | cons _ _ => simp at ln
    have dv := S.all hl ln
    cases dv with
    | cons dx _ =>
      split at hδ
      · rename_i y e
        exact h F H x d y Q dx hc e fun v dv' => hk v y .frz F H hδ ((S.drop hl).pushF hl dv')
      · exact hδ.elim
  · exact hδ.elim
@[simp ↓] def lenOf : D → Option D
  | .lst xs => some (.int xs.length)
  | .tup xs => some (.int xs.length)
  | .str x => some (.int x.length)
  | .dct kvs => some (.int kvs.length)
  | .scr ns => some (.int ns.length)
  | _ => none
@[simp ↓] def lenC : D → Prop
  | .str x => x.length ≤ sizeLine
  | _ => True
end
end DL
/-! D layer, part 3: ==, is, chains; places, slices; tests, and, or, not, if .. else. -/
namespace DL
open PySem PySem.Spec PyProof.Rows L2

/-! ### == -/
mutual
def toP : D → PyData
  | .non => .none
  | .bl b => .bool b
  | .int i => .int i
  | .str x => .str x
  | .tup xs => .tuple (toPA xs)
  | .lst xs => .list (toPA xs)
  | .dct _ => .dict []
  | .obj _ _ => .dict []
  | .scr _ => .dict []
def toPA : List D → List PyData
  | [] => []
  | d :: ds => toP d :: toPA ds
end
mutual
theorem Dv.dp {K : PySem.W.Frag} {H : Hp} : ∀ {v : V} {d : D}, Dv K H v d → (toP d).canLay0 = true → Dp K H v (toP d)
  | _, _, .non, _ => .non
  | _, _, .bl b, _ => .bl b
  | _, _, .int i, _ => .int i
  | _, _, .str x, _ => .str x
  | _, _, .tup h t, e => .tup h (DvA.dp t (by simpa [toP, PyData.canLay0] using e))
  | _, _, .lst h t, e => .lst (.inl (.inl h)) (DvA.dp t (by simpa [toP, PyData.canLay0] using e))
  | _, _, .dct _ _ _, e => by simp [toP, PyData.canLay0] at e
  | _, _, .obj _ _ _, e => by simp [toP, PyData.canLay0] at e
  | _, _, .scr _, e => by simp [toP, PyData.canLay0] at e
theorem DvA.dp {K : PySem.W.Frag} {H : Hp} : ∀ {vs : List V} {ds : List D}, DvA K H vs ds → PyData.canLayAll0 (toPA ds) = true → DpAll K H vs (toPA ds)
  | _, _, .nil, _ => .nil
  | _, _, .cons h t, e => by
    rw [toPA, PyData.canLayAll0, Bool.and_eq_true] at e
    exact .cons (Dv.dp h e.1) (DvA.dp t e.2)
end
/-- may be compared -/
def shp (d : D) : Prop := SeqAt.shaped (toP d) = true
/-- equal, as Python sees it -/
def deq (d e : D) : Bool := PyData.eqv (toP d) (toP e)
@[simp ↓] def δEq (neg : Bool) : DR2 := fun x _ y _ R => shp x ∧ shp y ∧ R (.bl (if neg then !deq x y else deq x y)) .frz
section
variable {X : Cx} {W : WX} {p p1 p2 p3 : Bool} {a b c : Expr} {pos : Pos} {ma mb mc : DE}
theorem pd_eq (hu : X.A.units + 64 < cLine) (ha : PD X W p1 a ma) (hb : PD X W p2 b mb) : PD X W (p1 && p2) (.Compare a [.Eq] [b] pos) (dBin p2 ma mb (δEq false)) :=
  pd_cmp (op_eqD hu) (fun G F0 F H vs es x y dx dy mx my Q R hl S ⟨h1, h2, hr⟩ hk => by
    obtain ⟨d1, d2⟩ := S.two hl
    exact ⟨_, _, d1.dp (SeqAt.canLay_of_shaped h1), d2.dp (SeqAt.canLay_of_shaped h2), h1, h2, hk _ _ _ F H hr (S.done hl (.bl _))⟩) ha hb (nobehind _ (by decide) (by decide))
theorem pd_ne (hu : X.A.units + 64 < cLine) (ha : PD X W p1 a ma) (hb : PD X W p2 b mb) : PD X W (p1 && p2) (.Compare a [.NotEq] [b] pos) (dBin p2 ma mb (δEq true)) :=
  pd_cmp (op_neD hu) (fun G F0 F H vs es x y dx dy mx my Q R hl S ⟨h1, h2, hr⟩ hk => by
    obtain ⟨d1, d2⟩ := S.two hl
    exact ⟨_, _, d1.dp (SeqAt.canLay_of_shaped h1), d2.dp (SeqAt.canLay_of_shaped h2), h1, h2, hk _ _ _ F H hr (S.done hl (.bl _))⟩) ha hb (nobehind _ (by decide) (by decide))
/-! ### is None -/
@[simp ↓] def isNon : D → Bool
  | .non => true
  | _ => false
theorem Dv.isNon {K : PySem.W.Frag} {H : Hp} {v : V} {d : D} (h : Dv K H v d) : decide (v = .non) = isNon d := by
  cases h <;> simp [DL.isNon]
@[simp ↓] def δIs (neg : Bool) : DR2 := fun x _ y _ R => match y with
  | .non => R (.bl (if neg then !isNon x else isNon x)) .frz
  | _ => False
theorem pd_is (ha : PD X W p1 a ma) (hb : PD X W p2 b mb) : PD X W (p1 && p2) (.Compare a [.Is] [b] pos) (dBin p2 ma mb (δIs false)) :=
  pd_cmp op_isN (fun G F0 F H vs es x y dx dy mx my Q R hl S hδ hk => by
    obtain ⟨d1, d2⟩ := S.two hl
    unfold δIs at hδ
    split at hδ
    · cases d2
      refine ⟨rfl, ?_⟩
      rw [d1.isNon]
      exact hk _ _ _ F H hδ (S.done hl (.bl _))
    · exact hδ.elim) ha hb (nobehind _ (by decide) (by decide))
theorem pd_isnot (ha : PD X W p1 a ma) (hb : PD X W p2 b mb) : PD X W (p1 && p2) (.Compare a [.IsNot] [b] pos) (dBin p2 ma mb (δIs true)) :=
  pd_cmp op_notN (fun G F0 F H vs es x y dx dy mx my Q R hl S hδ hk => by
    obtain ⟨d1, d2⟩ := S.two hl
    unfold δIs at hδ
    split at hδ
    · cases d2
      refine ⟨rfl, ?_⟩
      rw [d1.isNon]
      exact hk _ _ _ F H hδ (S.done hl (.bl _))
    · exact hδ.elim) ha hb (nobehind _ (by decide) (by decide))

/-! ### signs -/
@[simp ↓] def δU (f : D → Option D) (ma : DE) : DE := fun env R Ex => ma env (fun d _ e => match f d with
  | some y => R y .frz e
  | none => False) Ex
@[simp ↓] def negOf : D → Option D
  | .int i => some (.int (-i))
  | _ => none
theorem pd_neg (ha : PD X W p a ma) : PD X W p (.UnaryOp .USub a pos) (δU negOf ma) := by
  refine pd_of (pe_un un_neg ha) fun G F0 F H σ env tv te R Ex Q S l1 l2 nv wo hm hk => ?_
  refine ⟨G, F0, F, env, tv, te, _, Ex, S, l1, l2, nv, wo, hm, fun x d md F1 H1 env1 q l3 S1 => ?_⟩
  split at q
  · rename_i y e
    have dv := S1.lastV l3 l2
    cases dv with
    | int i => cases e; exact ⟨i, rfl, hk _ _ _ F1 H1 env1 q l3 (pushF2 (S1.reix' l3 l2) l3 l2 (.int _))⟩
    | _ => cases e
  · exact q.elim

/-! ### a < b < c of ints -/
@[simp ↓] def dChainI (p2 p3 : Bool) (g g' : Int → Int → Bool) (ma mb mc : DE) : DE := fun env R Ex => ma env (fun x mx e1 => viewOk p2 mx ∧ mb e1 (fun y _ e2 => match x, y with
  | .int i, .int j => if g i j = true then mc e2 (fun z _ e3 => match z with
    | .int k => R (.bl (g' j k)) .frz e3
    | _ => False) Ex else R (.bl false) .frz e2
  | _, _ => False) Ex) Ex
theorem tChain_D {K : PySem.W.Frag} {W : WX} {p1 p2 p3 : Bool} {ma mb mc : DE} {g g' : Int → Int → Bool} {σ : L2.St} {H : Hp} {Q : VK} (h : tD K W (p1 && (p2 && p3)) (dChainI p2 p3 g g' ma mb mc) σ H Q) :
    tChain (rI0 fun i j => .bl (g i j)) (rI0 fun i j => .bl (g' i j)) (tD K W p1 ma) (tD K W p2 mb) (tD K W p3 mc) σ H Q := by
  obtain ⟨G, F0, F, env, tv, te, R, Ex, S, l1, l2, nv, wo, hm, hk⟩ := h
  have nv1 : p1 = true ∨ NoView te := nv.imp (fun h => by rw [Bool.and_eq_true] at h; exact h.1) id
  have nv2 : p2 = true ∨ NoView te := nv.imp (fun h => by rw [Bool.and_eq_true, Bool.and_eq_true] at h; exact h.2.1) id
  have nv3 : p3 = true ∨ NoView te := nv.imp (fun h => by rw [Bool.and_eq_true, Bool.and_eq_true] at h; exact h.2.2) id
  refine ⟨G, F0, F, env, tv, te, _, Ex, S, l1, l2, nv1, wo, hm, fun x dx mx F1 H1 env1 ⟨vo, q1⟩ l3 S1 => ?_⟩
  have nv2' : p2 = true ∨ NoView (te ++ [some (dx, mx)]) := by
    rcases vo with vo | vo
    · exact .inl vo
    · exact nv2.imp id fun h => h.snoc vo
  refine ⟨G, F0, F1, env1, tv ++ [some x], te ++ [some (dx, mx)], _, Ex, S1, l3, by simp [l2], nv2', wo.snoc, q1, fun y dy my F2 H2 env2 q2 l4 S2 => ?_⟩
  have S2' : StD K G F0 F2 H2 ((σ ++ tv) ++ [some x, some y]) ((env2 ++ te) ++ [some (dx, mx), some (dy, my)]) := by simpa [List.append_assoc] using S2
  obtain ⟨d1, d2⟩ := S2'.two (by simp [l4, l2])
  split at q2
  · cases d1; cases d2
    refine ⟨_, _, rfl, rfl, _, rfl, ?_⟩
    have S3 := S2'.drop (by simp [l4, l2])
    split at q2
    · rename_i hg
      rw [hg]
      refine ⟨G, F0, F2, env2, tv, te, _, Ex, S3, l4, l2, nv3, wo, q2, fun z dz mz F3 H3 env3 q3 l5 S4 => ?_⟩
      split at q3
      · have d3 := S4.lastV l5 l2
        cases d3
        exact ⟨_, _, rfl, rfl, hk _ _ _ F3 H3 env3 q3 l5 (pushF2 (S4.reix' l5 l2) l5 l2 (.bl _))⟩
      · exact q3.elim
    · rename_i hg
      rw [if_neg hg]
      exact hk _ _ _ F2 H2 env2 q2 l4 (pushF2 S3 l4 l2 (.bl _))
  · exact q2.elim
theorem pd_chainI {op op' : CmpOp} {g g' : Int → Int → Bool} (ho : OpR X (compareOp op) (rI0 fun i j => .bl (g i j))) (ho' : OpR X (compareOp op') (rI0 fun i j => .bl (g' i j))) (ha : PD X W p1 a ma) (hb : PD X W p2 b mb) (hc : PD X W p3 c mc)
    (hm : lastMarks [op, op'] [b, c] = false := by with_unfolding_all rfl) : PD X W (p1 && (p2 && p3)) (.Compare a [op, op'] [b, c] pos) (dChainI p2 p3 g g' ma mb mc) :=
  PE.imp (pe_chain ho ho' ha hb hc hm) fun _ _ _ h => tChain_D h

/-! ### places -/
@[simp ↓] def childMd (md : Md) (d : D) : Md := if flat d = true then .frz else match md with
  | .frz => .frz
  | .lent => .lent
  | .view (.o m) => vw m
  | .own (.o .f) => .frz
  | _ => .view (.o .f)
/-- the item's own root -/
theorem child_root {K : PySem.W.Frag} {G F0 F H : Hp} {vs : List (Option V)} {es : Env} (S : StD K G F0 F H vs es) {x v : V} {d y : D} {md : Md} {as : List Addr} (r : Rt K G F H x d md as)
    (inF : ∀ Z, Same Z H → Dv K Z x d → Dv K Z v y) (inO : ∀ (m : Mask) (bs : List Addr), Ow K F H (.o m) x d bs → ∃ cs, Ow K F H m v y cs) (hm : flat y = true ∨ md = .frz ∨ md = .lent ∨ (∃ m : Mask, md = Md.view (.o m)) ∨ md = .own (.o .f)) :
    Rt K G F H v y (childMd md y) [] := by
  unfold childMd
  split
  · rename_i hf
    exact ⟨(inF H (fun _ _ q => q) (r.dv S.fh S.gh)).flat_of S.tu hf, rfl⟩
  · rename_i hf
    rcases hm with h | h | h | ⟨m, h⟩ | h
    · exact absurd h hf
    · subst h; exact ⟨inF F S.fh r.1, rfl⟩
    · subst h; exact ⟨inF G S.gh r.1, rfl⟩
    · subst h
      obtain ⟨⟨bs, ow⟩, _⟩ := r
      obtain ⟨cs, oc⟩ := inO m bs ow
      exact Rt.vw oc
    · subst h
      obtain ⟨cs, oc⟩ := inO .f as r
      cases oc with
      | fz q => exact ⟨q, rfl⟩
@[simp ↓] def ixMdOk (md : Md) (d : D) : Prop := flat d = true ∨ md = .frz ∨ md = .lent ∨ (∃ m : Mask, md = Md.view (.o m)) ∨ md = .own (.o .f)
theorem OwL.get {K : PySem.W.Frag} {F H : Hp} {m : Mask} : ∀ {vs : List V} {ds : List D} {as : List Addr} {i : Nat} {d : D} {v : V}, OwL K F H (ds.map fun _ => m) vs ds as → ds[i]? = some d → vs[i]? = some v → ∃ bs, Ow K F H m v d bs
  | [], [], _, _, _, _, .nil, h, _ => by simp at h
  | _ :: _, _ :: _, _, 0, _, _, .cons h _, e1, e2 => by simp at e1 e2; subst e1 e2; exact ⟨_, h⟩
  | _ :: _, _ :: _, _, i + 1, _, _, .cons _ t, e1, e2 => OwL.get (i := i) t (by simpa using e1) (by simpa using e2)
theorem ixN_len {K : PySem.W.Frag} {H : Hp} {xs : List V} {ds : List D} (h : DvA K H xs ds) {i : Int} {d : D} (e : atI ds i = some d) : ∃ (v : V) (j : Nat), atI xs i = some v ∧ xs[j]? = some v ∧ ds[j]? = some d ∧ Dv K H v d := by
  unfold atI at e ⊢
  rw [← h.length] at e
  cases q : ixN xs.length i with
  | none => rw [q] at e; cases e
  | some j =>
    rw [q] at e
    obtain ⟨v, hv, dv⟩ := h.get (show ds[j]? = some d from e)
    exact ⟨v, j, hv, hv, e, dv⟩
/-- x[i] of lists, tuples, texts -/
@[simp ↓] def δIx : DR2 := fun x mx y _ R => match x, y with
  | .lst xs, .int i => match atI xs i with
    | some d => ixMdOk mx d ∧ R d (childMd mx d)
    | none => False
  | .tup xs, .int i => match atI xs i with
    | some d => (flat d = true ∨ mx = .frz ∨ mx = .lent) ∧ R d (childMd mx d)
    | none => False
  | .str z, .int i => z.length ≤ sizeLine ∧ match atI z.cps.toList i with
    | some c => R (.str ⟨#[c]⟩) .frz
    | none => False
  | _, _ => False
theorem StD.twoR {K : PySem.W.Frag} {G F0 F H : Hp} {vs : List (Option V)} {es : Env} {x y : V} {dx dy : D} {mx my : Md} (S : StD K G F0 F H (vs ++ [some x, some y]) (es ++ [some (dx, mx), some (dy, my)])) (hl : vs.length = es.length) :
    ∃ as, Rt K G F H x dx mx as := by
  obtain ⟨v1, as, e1, r⟩ := S.getR (i := es.length) (d := dx) (md := mx) (by simp)
  rw [← hl] at e1
  simp at e1
  subst e1
  exact ⟨as, r⟩
theorem od_ix {K : PySem.W.Frag} : OpD K (rIx K) δIx := by
  intro G F0 F H vs es x y dx dy mx my Q R hl S hδ hk
  obtain ⟨d1, d2⟩ := S.two hl
  obtain ⟨as, r⟩ := S.twoR hl
  unfold δIx at hδ
  split at hδ
  · split at hδ
    · rename_i xs i _ d e
      obtain ⟨hm, hr⟩ := hδ
      cases d2
      cases d1 with
      | lst hs ha =>
        obtain ⟨v, j, e1, e2, e3, dv⟩ := ixN_len ha e
        refine .inl ⟨_, _, i, v, rfl, rfl, .inl (.inl hs), e1, hk v d _ F H hr ((S.drop hl).push0 hl ?_)⟩
        refine child_root S r (inF := fun Z z q => ?_) (inO := fun m bs q => ?_) hm
        · cases q with
          | lst hs' ha' =>
            have := z _ _ hs'
            rw [hs] at this; cases this
            obtain ⟨v', e4, dv'⟩ := ha'.get e3
            rw [e2] at e4; cases e4; exact dv'
        · cases q with
          | lst hs' ht => rw [hs] at hs'; cases hs'; exact OwL.get ht e3 e2
    · exact hδ.elim
  · split at hδ
    · rename_i xs i _ d e
      obtain ⟨hm, hr⟩ := hδ
      cases d2
      have fin : ∀ Z, Same Z H → Dv K Z x (.tup xs) → (∀ v, Dv K Z v d → Rt K G F H v d (childMd mx d) []) → rIx K x (.int i) H Q := fun Z z q k => by
        cases q with
        | tup hs ha =>
          obtain ⟨v, j, e1, e2, e3, dv⟩ := ixN_len ha e
          exact .inr (.inl ⟨_, _, i, v, rfl, rfl, same_seqT z hs, e1, hk v d _ F H hr ((S.drop hl).push0 hl (k v dv))⟩)
      by_cases hf : flat d = true
      · refine fin H (fun _ _ q => q) d1 fun v dv => ?_
        unfold childMd
        rw [if_pos hf]
        exact ⟨dv.flat_of S.tu hf, rfl⟩
      · rcases hm with h | h | h
        · exact absurd h hf
        · subst h
          refine fin F S.fh r.1 fun v dv => ?_
          unfold childMd
          rw [if_neg hf]
          exact ⟨dv, rfl⟩
        · subst h
          refine fin G S.gh r.1 fun v dv => ?_
          unfold childMd
          rw [if_neg hf]
          exact ⟨dv, rfl⟩
    · exact hδ.elim
  · rename_i z i
    obtain ⟨hz, hδ⟩ := hδ
    split at hδ
    · rename_i c e
      cases d2; cases d1
      exact .inr (.inr ⟨z, i, c, rfl, rfl, hz, e, hk _ _ _ F H hδ (S.done hl (.str _))⟩)
    · exact hδ.elim
  · exact hδ.elim
theorem pd_ix (ha : PD X W p1 a ma) (hb : PD X W p2 b mb) (hs : PlainIx b := by exact fun _ _ => rfl) : PD X W (p1 && p2) (.Subscript a b pos) (dBin p2 ma mb δIx) := PE.imp (pe_ix ix_seq ha hb hs) fun _ _ _ h => tOp_D od_ix h
end
end DL
/-! D layer, part 4: tests; and, or, not, if .. else; slices. -/
namespace DL
open PySem PySem.Spec PyProof.Rows L2

abbrev DT := Env → (Bool → Env → Prop) → DX → Prop
def tDT (K : PySem.W.Frag) (W : WX) (p : Bool) (m : DT) : TT := fun σ H Q => ∃ (G F0 F : Hp) (env : Env) (tv : List (Option V)) (te : Env) (R : Bool → Env → Prop) (Ex : DX),
  StD K G F0 F H (σ ++ tv) (env ++ te) ∧ env.length = σ.length ∧ tv.length = te.length ∧ (p = true ∨ NoView te) ∧ WOk K W G F0 tv te Ex ∧ m env R Ex ∧
  ∀ (b : Bool) (F' H' : Hp) (env' : Env), R b env' → env'.length = σ.length → StD K G F0 F' H' (σ ++ tv) (env' ++ te) → Q b H'
def PDT (X : Cx) (W : WX) (p : Bool) (e : Expr) (m : DT) : Prop := PT X e (tDT X.K W p m)
def PDW (X : Cx) (W : WX) (p : Bool) (e : Expr) (m : DT) : Prop := PW X e (tDT X.K W p m)
theorem PT.imp {X : Cx} {e : Expr} {t t' : TT} (h : PT X e t) (k : ∀ σ H Q, t' σ H Q → t σ H Q) : PT X e t' := ⟨fun pins s σ H Q I q => h.run pins s σ H Q I (k σ H Q q)⟩
theorem PW.imp {X : Cx} {e : Expr} {t t' : TT} (h : PW X e t) (k : ∀ σ H Q, t' σ H Q → t σ H Q) : PW X e t' := ⟨fun wh pins s σ H Q I q => h.run wh pins s σ H Q I (k σ H Q q)⟩

/-- truth of data -/
@[simp ↓] def dTr (d : D) (R : Bool → Prop) : Prop := match d with
  | .non => R false
  | .bl b => R b
  | .int i => R (i != 0)
  | .str x => x.length ≤ sizeLine ∧ R ((x.length : Int) != 0)
  | .lst xs => R (!xs.isEmpty)
  | .tup xs => R (!xs.isEmpty)
  | .dct kvs => R (!kvs.isEmpty)
  | _ => False
theorem dvA_empty {K : PySem.W.Frag} {H : Hp} {vs : List V} {ds : List D} (h : DvA K H vs ds) : (!vs.isEmpty) = !ds.isEmpty := by cases h <;> rfl
theorem dTr_ok {K : PySem.W.Frag} {H : Hp} {v : V} {d : D} {R : Bool → Prop} (dv : Dv K H v d) (h : dTr d R) : ∃ k, TruV K v H k ∧ R k := by
  cases dv with
  | non => exact ⟨_, rfl, h⟩
  | bl b => exact ⟨_, rfl, h⟩
  | int i => exact ⟨_, rfl, h⟩
  | str x => exact ⟨_, ⟨h.1, rfl⟩, h.2⟩
  | tup hs ha => exact ⟨_, .inr (.inl ⟨_, hs, rfl⟩), by rw [dvA_empty ha]; exact h⟩
  | lst hs ha => exact ⟨_, .inl ⟨_, .inl (.inl hs), rfl⟩, by rw [dvA_empty ha]; exact h⟩
  | @dct a kv kd hs hk ha =>
    refine ⟨_, .inr (.inr ⟨_, hs, rfl⟩), ?_⟩
    have e : (!kv.isEmpty) = !kd.isEmpty := by
      have := congrArg List.length hk
      rw [List.length_map, List.length_map] at this
      cases kv <;> cases kd <;> simp_all
    rw [e]; exact h
  | obj _ _ _ => exact h.elim
  | scr _ => exact h.elim
@[simp ↓] def dTruth (m : DE) : DT := fun env R Ex => m env (fun d _ e => dTr d fun b => R b e) Ex
section
variable {X : Cx} {W : WX} {p p1 p2 p3 : Bool} {a b c : Expr} {pos : Pos} {ma mb mc : DE} {mt mu : DT} {rest : List Expr}
theorem and_l {a b : Bool} {P : Prop} (h : (a && b) = true ∨ P) : a = true ∨ P := h.imp (fun h => by rw [Bool.and_eq_true] at h; exact h.1) id
theorem and_r {a b : Bool} {P : Prop} (h : (a && b) = true ∨ P) : b = true ∨ P := h.imp (fun h => by rw [Bool.and_eq_true] at h; exact h.2) id
theorem pdt_of {e : Expr} {m : DT} {t : TT} (h : PT X e t)
    (k : ∀ (G F0 F H : Hp) (σ : L2.St) (env : Env) (tv : List (Option V)) (te : Env) (R : Bool → Env → Prop) (Ex : DX) (Q : Bool → Hp → Prop), StD X.K G F0 F H (σ ++ tv) (env ++ te) → env.length = σ.length → tv.length = te.length → (p = true ∨ NoView te) → WOk X.K W G F0 tv te Ex → m env R Ex →
      (∀ (b : Bool) (F' H' : Hp) (env' : Env), R b env' → env'.length = σ.length → StD X.K G F0 F' H' (σ ++ tv) (env' ++ te) → Q b H') → t σ H Q) : PDT X W p e m :=
  PT.imp h fun σ H Q ⟨G, F0, F, env, tv, te, R, Ex, S, l1, l2, nv, wo, hm, hk⟩ => k G F0 F H σ env tv te R Ex Q S l1 l2 nv wo hm hk
/-- any expression whose test is its value's truth (he by rfl) -/
theorem pdt_val (ha : PD X W p a ma) (he : ∀ whole, isTrue a X.env whole = (do let v ← whole; standAt a.pos; holding [v] (truthy v)) := by intro _; rfl) : PDT X W p a (dTruth ma) := by
  refine pdt_of (pt_truth ha he) fun G F0 F H σ env tv te R Ex Q S l1 l2 nv wo hm hk => ?_
  refine ⟨G, F0, F, env, tv, te, _, Ex, S, l1, l2, nv, wo, hm, fun v d md F1 H1 env1 q l3 S1 => ?_⟩
  obtain ⟨k, hk', hr⟩ := dTr_ok (S1.lastV l3 l2) q
  exact ⟨k, hk', hk k F1 H1 env1 hr l3 (S1.reix' l3 l2)⟩
/-- a truth value is asked for -/
@[simp ↓] def dB (m : DE) : DT := fun env R Ex => m env (fun d _ e => match d with
  | .bl b => R b e
  | _ => False) Ex
theorem tTest_D {m : DE} {t : TE} {σ : L2.St} {H : Hp} {Q : Bool → Hp → Prop} (ht : ∀ σ H Q, tD X.K W p m σ H Q → t σ H Q) (h : tDT X.K W p (dB m) σ H Q) : tTest t σ H Q := by
  obtain ⟨G, F0, F, env, tv, te, R, Ex, S, l1, l2, nv, wo, hm, hk⟩ := h
  refine ht σ H _ ⟨G, F0, F, env, tv, te, _, Ex, S, l1, l2, nv, wo, hm, fun v d md F1 H1 env1 q l3 S1 => ?_⟩
  have dv := S1.lastV l3 l2
  split at q
  · cases dv
    exact ⟨_, rfl, hk _ F1 H1 env1 q l3 (S1.reix' l3 l2)⟩
  · exact q.elim
theorem pdt_cmp {op : CmpOp} {r : R2} {δ : DR2} (ho : OpR X (compareOp op) r) (hd : OpD X.K r δ) (ha : PD X W p1 a ma) (hb : PD X W p2 b mb) (hm : behindInMarks op b = false := by rfl) : PDT X W (p1 && p2) (.Compare a [op] [b] pos) (dB (dBin p2 ma mb δ)) :=
  PT.imp (pt_cmpR ho ha hb hm) fun σ H Q h => tTest_D (fun _ _ _ q => tOp_D hd q) h
theorem od_eq {K : PySem.W.Frag} : OpD K (rEqD K) (δEq false) := fun G F0 F H vs es x y dx dy mx my Q R hl S ⟨h1, h2, hr⟩ hk => by
  obtain ⟨d1, d2⟩ := S.two hl
  exact ⟨_, _, d1.dp (SeqAt.canLay_of_shaped h1), d2.dp (SeqAt.canLay_of_shaped h2), h1, h2, hk _ _ _ F H hr (S.done hl (.bl _))⟩
theorem od_ne {K : PySem.W.Frag} : OpD K (rNeD K) (δEq true) := fun G F0 F H vs es x y dx dy mx my Q R hl S ⟨h1, h2, hr⟩ hk => by
  obtain ⟨d1, d2⟩ := S.two hl
  exact ⟨_, _, d1.dp (SeqAt.canLay_of_shaped h1), d2.dp (SeqAt.canLay_of_shaped h2), h1, h2, hk _ _ _ F H hr (S.done hl (.bl _))⟩
theorem od_is {K : PySem.W.Frag} : OpD K (fun x y H Q => y = .non ∧ Q (.bl (decide (x = .non))) H) (δIs false) := fun G F0 F H vs es x y dx dy mx my Q R hl S hδ hk => by
  obtain ⟨d1, d2⟩ := S.two hl
  unfold δIs at hδ
  split at hδ
  · cases d2
    refine ⟨rfl, ?_⟩
    rw [d1.isNon]
    exact hk _ _ _ F H hδ (S.done hl (.bl _))
  · exact hδ.elim
theorem od_isnot {K : PySem.W.Frag} : OpD K (fun x y H Q => y = .non ∧ Q (.bl (!decide (x = .non))) H) (δIs true) := fun G F0 F H vs es x y dx dy mx my Q R hl S hδ hk => by
  obtain ⟨d1, d2⟩ := S.two hl
  unfold δIs at hδ
  split at hδ
  · cases d2
    refine ⟨rfl, ?_⟩
    rw [d1.isNon]
    exact hk _ _ _ F H hδ (S.done hl (.bl _))
  · exact hδ.elim
theorem pdt_eq (hu : X.A.units + 64 < cLine) (ha : PD X W p1 a ma) (hb : PD X W p2 b mb) : PDT X W (p1 && p2) (.Compare a [.Eq] [b] pos) (dB (dBin p2 ma mb (δEq false))) := pdt_cmp (op_eqD hu) od_eq ha hb (nobehind _ (by decide) (by decide))
theorem pdt_ne (hu : X.A.units + 64 < cLine) (ha : PD X W p1 a ma) (hb : PD X W p2 b mb) : PDT X W (p1 && p2) (.Compare a [.NotEq] [b] pos) (dB (dBin p2 ma mb (δEq true))) := pdt_cmp (op_neD hu) od_ne ha hb (nobehind _ (by decide) (by decide))
theorem pdt_is (ha : PD X W p1 a ma) (hb : PD X W p2 b mb) : PDT X W (p1 && p2) (.Compare a [.Is] [b] pos) (dB (dBin p2 ma mb (δIs false))) := pdt_cmp op_isN od_is ha hb (nobehind _ (by decide) (by decide))
theorem pdt_isnot (ha : PD X W p1 a ma) (hb : PD X W p2 b mb) : PDT X W (p1 && p2) (.Compare a [.IsNot] [b] pos) (dB (dBin p2 ma mb (δIs true))) := pdt_cmp op_notN od_isnot ha hb (nobehind _ (by decide) (by decide))
theorem pdt_lt (ha : PD X W p1 a ma) (hb : PD X W p2 b mb) : PDT X W (p1 && p2) (.Compare a [.Lt] [b] pos) (dB (dBin p2 ma mb (δI (fun _ _ => True) fun i j => .bl (decide (i < j))))) := pdt_cmp op_lt (od_I0 fun _ _ _ => .bl _) ha hb (nobehind _ (by decide) (by decide))
theorem pdt_le (ha : PD X W p1 a ma) (hb : PD X W p2 b mb) : PDT X W (p1 && p2) (.Compare a [.LtE] [b] pos) (dB (dBin p2 ma mb (δI (fun _ _ => True) fun i j => .bl (decide (i ≤ j))))) := pdt_cmp op_le (od_I0 fun _ _ _ => .bl _) ha hb (nobehind _ (by decide) (by decide))
theorem pdt_gt (ha : PD X W p1 a ma) (hb : PD X W p2 b mb) : PDT X W (p1 && p2) (.Compare a [.Gt] [b] pos) (dB (dBin p2 ma mb (δI (fun _ _ => True) fun i j => .bl (decide (j < i))))) := pdt_cmp op_gt (od_I0 fun _ _ _ => .bl _) ha hb (nobehind _ (by decide) (by decide))
theorem pdt_ge (ha : PD X W p1 a ma) (hb : PD X W p2 b mb) : PDT X W (p1 && p2) (.Compare a [.GtE] [b] pos) (dB (dBin p2 ma mb (δI (fun _ _ => True) fun i j => .bl (decide (j ≤ i))))) := pdt_cmp op_ge (od_I0 fun _ _ _ => .bl _) ha hb (nobehind _ (by decide) (by decide))
theorem pdt_chainI {op op' : CmpOp} {g g' : Int → Int → Bool} (ho : OpR X (compareOp op) (rI0 fun i j => .bl (g i j))) (ho' : OpR X (compareOp op') (rI0 fun i j => .bl (g' i j))) (ha : PD X W p1 a ma) (hb : PD X W p2 b mb) (hc : PD X W p3 c mc)
    (hm : lastMarks [op, op'] [b, c] = false := by with_unfolding_all rfl) : PDT X W (p1 && (p2 && p3)) (.Compare a [op, op'] [b, c] pos) (dB (dChainI p2 p3 g g' ma mb mc)) :=
  PT.imp (pt_chain ho ho' ha hb hc hm) fun σ H Q h => tTest_D (fun _ _ _ q => tChain_D q) h

/-! ### not, and, or in tests -/
@[simp ↓] def dNotT (mt : DT) : DT := fun env R Ex => mt env (fun b e => R (!b) e) Ex
@[simp ↓] def dAndT (mt mu : DT) : DT := fun env R Ex => mt env (fun b e => if b = true then mu e R Ex else R false e) Ex
@[simp ↓] def dOrT (mt mu : DT) : DT := fun env R Ex => mt env (fun b e => if b = true then R true e else mu e R Ex) Ex
theorem pdt_not (h : PDT X W p a mt) : PDT X W p (.UnaryOp .Not a pos) (dNotT mt) :=
  pdt_of (pt_not h) fun G F0 F H σ env tv te R Ex Q S l1 l2 nv wo hm hk => ⟨G, F0, F, env, tv, te, _, Ex, S, l1, l2, nv, wo, hm, fun b F1 H1 env1 q l3 S1 => hk _ F1 H1 env1 q l3 S1⟩
theorem pdt_bool (h : PDW X W p a mt) : PDT X W p a mt := PW.pt h
theorem pdw_and1 (h : PDT X W p a mt) : PDW X W p (.BoolOp .And [a] pos) mt := pw_and1 h
theorem pdw_or1 (h : PDT X W p a mt) : PDW X W p (.BoolOp .Or [a] pos) mt := pw_or1 h
theorem pdw_and (ha : PDT X W p1 a mt) (hb : PDW X W p2 (.BoolOp .And (b :: rest) pos) mu) : PDW X W (p1 && p2) (.BoolOp .And (a :: b :: rest) pos) (dAndT mt mu) :=
  PW.imp (pw_and ha hb) fun σ H Q ⟨G, F0, F, env, tv, te, R, Ex, S, l1, l2, nv, wo, hm, hk⟩ => ⟨G, F0, F, env, tv, te, _, Ex, S, l1, l2, and_l nv, wo, hm, fun b F1 H1 env1 q l3 S1 => by
    cases b with
    | true => exact ⟨G, F0, F1, env1, tv, te, _, Ex, S1, l3, l2, and_r nv, wo, q, hk⟩
    | false => exact hk _ F1 H1 env1 q l3 S1⟩
theorem pdw_or (ha : PDT X W p1 a mt) (hb : PDW X W p2 (.BoolOp .Or (b :: rest) pos) mu) : PDW X W (p1 && p2) (.BoolOp .Or (a :: b :: rest) pos) (dOrT mt mu) :=
  PW.imp (pw_or ha hb) fun σ H Q ⟨G, F0, F, env, tv, te, R, Ex, S, l1, l2, nv, wo, hm, hk⟩ => ⟨G, F0, F, env, tv, te, _, Ex, S, l1, l2, and_l nv, wo, hm, fun b F1 H1 env1 q l3 S1 => by
    cases b with
    | true => exact hk _ F1 H1 env1 q l3 S1
    | false => exact ⟨G, F0, F1, env1, tv, te, _, Ex, S1, l3, l2, and_r nv, wo, q, hk⟩⟩

/-! ### .. as values -/
@[simp ↓] def dNot (ma : DE) : DE := fun env R Ex => ma env (fun d _ e => dTr d fun b => R (.bl (!b)) .frz e) Ex
@[simp ↓] def dAnd (ma mb : DE) : DE := fun env R Ex => ma env (fun d md e => dTr d fun b => if b = true then mb e R Ex else R d md e) Ex
@[simp ↓] def dOr (ma mb : DE) : DE := fun env R Ex => ma env (fun d md e => dTr d fun b => if b = true then R d md e else mb e R Ex) Ex
theorem pd_not (h : PD X W p a ma) : PD X W p (.UnaryOp .Not a pos) (dNot ma) := by
  refine pd_of (pe_notT h) fun G F0 F H σ env tv te R Ex Q S l1 l2 nv wo hm hk => ?_
  refine ⟨G, F0, F, env, tv, te, _, Ex, S, l1, l2, nv, wo, hm, fun v d md F1 H1 env1 q l3 S1 => ?_⟩
  obtain ⟨k, hk', hr⟩ := dTr_ok (S1.lastV l3 l2) q
  exact ⟨k, hk', hk _ _ _ F1 H1 env1 hr l3 (pushF2 (S1.reix' l3 l2) l3 l2 (.bl _))⟩
theorem pd_one {op : BoolOp} (h : PD X W p a ma) : PD X W p (.BoolOp op [a] pos) ma := pe_one h
theorem pd_and (ha : PD X W p1 a ma) (hb : PD X W p2 (.BoolOp .And (b :: rest) pos) mb) : PD X W (p1 && p2) (.BoolOp .And (a :: b :: rest) pos) (dAnd ma mb) := by
  refine pd_of (pe_andT ha hb) fun G F0 F H σ env tv te R Ex Q S l1 l2 nv wo hm hk => ?_
  refine ⟨G, F0, F, env, tv, te, _, Ex, S, l1, l2, and_l nv, wo, hm, fun v d md F1 H1 env1 q l3 S1 => ?_⟩
  obtain ⟨k, hk', hr⟩ := dTr_ok (S1.lastV l3 l2) q
  refine ⟨k, hk', ?_⟩
  cases k with
  | true => exact ⟨G, F0, F1, env1, tv, te, _, Ex, S1.reix' l3 l2, l3, l2, and_r nv, wo, hr, hk⟩
  | false => exact hk _ _ _ F1 H1 env1 hr l3 S1
theorem pd_or (ha : PD X W p1 a ma) (hb : PD X W p2 (.BoolOp .Or (b :: rest) pos) mb) : PD X W (p1 && p2) (.BoolOp .Or (a :: b :: rest) pos) (dOr ma mb) := by
  refine pd_of (pe_orT ha hb) fun G F0 F H σ env tv te R Ex Q S l1 l2 nv wo hm hk => ?_
  refine ⟨G, F0, F, env, tv, te, _, Ex, S, l1, l2, and_l nv, wo, hm, fun v d md F1 H1 env1 q l3 S1 => ?_⟩
  obtain ⟨k, hk', hr⟩ := dTr_ok (S1.lastV l3 l2) q
  refine ⟨k, hk', ?_⟩
  cases k with
  | true => exact hk _ _ _ F1 H1 env1 hr l3 S1
  | false => exact ⟨G, F0, F1, env1, tv, te, _, Ex, S1.reix' l3 l2, l3, l2, and_r nv, wo, hr, hk⟩
@[simp ↓] def dIf (mt : DT) (ma mb : DE) : DE := fun env R Ex => mt env (fun b e => if b = true then ma e R Ex else mb e R Ex) Ex
theorem pd_ifx (hc : PDT X W p c mt) (ha : PD X W p1 a ma) (hb : PD X W p2 b mb) : PD X W (p && (p1 && p2)) (.IfExp c a b pos) (dIf mt ma mb) := by
  refine pd_of (pe_ifExp hc ha hb) fun G F0 F H σ env tv te R Ex Q S l1 l2 nv wo hm hk => ?_
  refine ⟨G, F0, F, env, tv, te, _, Ex, S, l1, l2, and_l nv, wo, hm, fun k F1 H1 env1 q l3 S1 => ?_⟩
  cases k with
  | true => exact ⟨G, F0, F1, env1, tv, te, _, Ex, S1, l3, l2, and_l (and_r nv), wo, q, hk⟩
  | false => exact ⟨G, F0, F1, env1, tv, te, _, Ex, S1, l3, l2, and_r (and_r nv), wo, q, hk⟩

/-! ### slices -/
abbrev DO := Env → (Option Int → Env → Prop) → DX → Prop
def tDO (K : PySem.W.Frag) (W : WX) (p : Bool) (m : DO) : TO := fun σ H Q => ∃ (G F0 F : Hp) (env : Env) (tv : List (Option V)) (te : Env) (R : Option Int → Env → Prop) (Ex : DX),
  StD K G F0 F H (σ ++ tv) (env ++ te) ∧ env.length = σ.length ∧ tv.length = te.length ∧ (p = true ∨ NoView te) ∧ WOk K W G F0 tv te Ex ∧ m env R Ex ∧
  ∀ (b : Option Int) (F' H' : Hp) (env' : Env), R b env' → env'.length = σ.length → StD K G F0 F' H' (σ ++ tv) (env' ++ te) → Q b H'
def PDO (X : Cx) (W : WX) (p : Bool) (e : Option Expr) (m : DO) : Prop := PO X e (tDO X.K W p m)
@[simp ↓] def dNoP : DO := fun env R _ => R none env
@[simp ↓] def dPart (ma : DE) : DO := fun env R Ex => ma env (fun d _ e => match d with
  | .int i => R (some i) e
  | _ => False) Ex
theorem pdo_none : PDO X W true none dNoP := ⟨fun pins s σ H Q I ⟨G, F0, F, env, tv, te, R, Ex, S, l1, l2, nv, wo, hm, hk⟩ => po_none.run pins s σ H Q I (hk none F H env hm l1 S)⟩
theorem pdo_some (ha : PD X W p a ma) : PDO X W p (some a) (dPart ma) := ⟨fun pins s σ H Q I ⟨G, F0, F, env, tv, te, R, Ex, S, l1, l2, nv, wo, hm, hk⟩ => (po_some ha).run pins s σ H Q I
  ⟨G, F0, F, env, tv, te, _, Ex, S, l1, l2, nv, wo, hm, fun v d md F1 H1 env1 q l3 S1 => by
    have dv := S1.lastV l3 l2
    split at q
    · cases dv
      exact ⟨_, rfl, hk _ F1 H1 env1 q l3 (S1.reix' l3 l2)⟩
    · exact q.elim⟩⟩
end
end DL
/-! D layer, part 5: what a def promises, by data; calls. -/
namespace DL
open PySem PySem.Spec PyProof.Rows L2

/-- how a parameter is handed: l lent, z for good, m k to be changed (owned by k) -/
inductive PMd where
  | l | z | m (k : Mask)
/-- a call's end: a value, or an exception; what the parameters handed by m hold then, in the parameters' places -/
inductive DOut where
  | ret (d : D) (md : Md) (ms : List (Option D))
  | exc (x : XD) (ms : List (Option D))
abbrev DSp := List D → (DOut → Prop) → Prop
@[simp ↓] def PMd.md : PMd → V → Md
  | .l, _ => .lent
  | .z, _ => .frz
  | .m k, v => .brw k v
@[simp ↓] def entE : List PMd → List D → List V → Env
  | p :: ps, d :: ds, v :: vs => some (d, p.md v) :: entE ps ds vs
  | _, _, _ => []
def postE : List PMd → List (Option D) → Env
  | .m k :: ps, some d :: ms => some (d, .own k) :: postE ps ms
  | _ :: ps, _ :: ms => none :: postE ps ms
  | _ :: ps, [] => none :: postE ps []
  | [], _ => []
@[simp ↓] def Md.given : Md → Bool
  | .frz => true
  | .own _ => true
  | _ => false
/-- the promise, by values -/
def lift (K : PySem.W.Frag) (pm : List PMd) (sp : DSp) : Sp := fun vs H Q E => ∃ (G F : Hp) (ds : List D), vs.length = pm.length ∧ ds.length = pm.length ∧ StD K G F F H (vs.map some) (entE pm ds vs) ∧ sp ds fun out => match out with
  | .ret d md ms => md.given = true → ∀ v F' H', StD K G F F' H' (some v :: vs.map some) (some (d, md) :: postE pm ms) → Q v H'
  | .exc x ms => ∀ cls dx F' H', StD K G F F' H' (vs.map some) (postE pm ms) → XR K F' H' x cls dx → E cls dx H'

theorem entE_len : ∀ {pm : List PMd} {ds : List D} {vs : List V}, ds.length = pm.length → vs.length = pm.length → (entE pm ds vs).length = pm.length
  | [], ds, vs, _, _ => by simp [entE]
  | _ :: ps, [], _, h, _ => by simp at h
  | _ :: ps, _ :: _, [], _, h => by simp at h
  | _ :: ps, _ :: ds, _ :: vs, h1, h2 => by simp [entE, entE_len (pm := ps) (ds := ds) (vs := vs) (by simpa using h1) (by simpa using h2)]
theorem entE_get : ∀ {pm : List PMd} {ds : List D} {vs : List V} {j : Nat} {d : D} {md : Md}, (entE pm ds vs)[j]? = some (some (d, md)) → ∃ p v, pm[j]? = some p ∧ ds[j]? = some d ∧ vs[j]? = some v ∧ md = p.md v
  | [], _, _, _, _, _, h => by simp [entE] at h
  | _ :: _, [], _, _, _, _, h => by simp [entE] at h
  | _ :: _, _ :: _, [], _, _, _, h => by simp [entE] at h
  | p :: ps, d :: ds, v :: vs, 0, _, _, h => by
    simp [entE] at h
    obtain ⟨rfl, rfl⟩ := h
    exact ⟨p, v, rfl, rfl, rfl, rfl⟩
  | p :: ps, d :: ds, v :: vs, j + 1, _, _, h => by simpa using entE_get (j := j) (pm := ps) (ds := ds) (vs := vs) (by simpa [entE] using h)
theorem entE_some : ∀ {pm : List PMd} {ds : List D} {vs : List V} {j : Nat} {p : PMd} {d : D} {v : V}, pm[j]? = some p → ds[j]? = some d → vs[j]? = some v → (entE pm ds vs)[j]? = some (some (d, p.md v))
  | [], _, _, _, _, _, _, h, _, _ => by simp at h
  | _ :: _, [], _, _, _, _, _, _, h, _ => by simp at h
  | _ :: _, _ :: _, [], _, _, _, _, _, _, h => by simp at h
  | _ :: _, _ :: _, _ :: _, 0, _, _, _, h1, h2, h3 => by simp at h1 h2 h3; subst h1 h2 h3; simp [entE]
  | _ :: ps, _ :: ds, _ :: vs, j + 1, _, _, _, h1, h2, h3 => by simpa [entE] using entE_some (j := j) (pm := ps) (ds := ds) (vs := vs) (by simpa using h1) (by simpa using h2) (by simpa using h3)
theorem postE_get : ∀ {pm : List PMd} {ms : List (Option D)} {j : Nat} {d : D} {md : Md}, (postE pm ms)[j]? = some (some (d, md)) → ∃ k, pm[j]? = some (.m k) ∧ ms[j]? = some (some d) ∧ md = .own k
  | [], _, _, _, _, h => by simp [postE] at h
  | .m k :: ps, some d :: ms, 0, _, _, h => by
    simp [postE] at h
    obtain ⟨rfl, rfl⟩ := h
    exact ⟨k, rfl, rfl, rfl⟩
  | .m k :: ps, some d :: ms, j + 1, _, _, h => by simpa using postE_get (j := j) (pm := ps) (ms := ms) (by simpa [postE] using h)
  | .m k :: ps, none :: ms, 0, _, _, h => by simp [postE] at h
  | .m k :: ps, none :: ms, j + 1, _, _, h => by simpa using postE_get (j := j) (pm := ps) (ms := ms) (by simpa [postE] using h)
  | .m k :: ps, [], 0, _, _, h => by simp [postE] at h
  | .m k :: ps, [], j + 1, _, _, h => by simpa using postE_get (j := j) (pm := ps) (ms := []) (by simpa [postE] using h)
  | .l :: ps, _ :: ms, 0, _, _, h => by simp [postE] at h
  | .l :: ps, _ :: ms, j + 1, _, _, h => by simpa using postE_get (j := j) (pm := ps) (ms := ms) (by simpa [postE] using h)
  | .z :: ps, _ :: ms, 0, _, _, h => by simp [postE] at h
  | .z :: ps, _ :: ms, j + 1, _, _, h => by simpa using postE_get (j := j) (pm := ps) (ms := ms) (by simpa [postE] using h)
  | .l :: ps, [], 0, _, _, h => by simp [postE] at h
  | .l :: ps, [], j + 1, _, _, h => by simpa using postE_get (j := j) (pm := ps) (ms := []) (by simpa [postE] using h)
  | .z :: ps, [], 0, _, _, h => by simp [postE] at h
  | .z :: ps, [], j + 1, _, _, h => by simpa using postE_get (j := j) (pm := ps) (ms := []) (by simpa [postE] using h)
theorem postE_some : ∀ {pm : List PMd} {ms : List (Option D)} {j : Nat} {d : D} {k : Mask}, pm[j]? = some (.m k) → ms[j]? = some (some d) → (postE pm ms)[j]? = some (some (d, .own k))
  | [], _, _, _, _, h, _ => by simp at h
  | _ :: _, [], _, _, _, _, h => by simp at h
  | .m k :: ps, some d :: ms, 0, _, _, h1, h2 => by simp at h1 h2; subst h1 h2; simp [postE]
  | .m k :: ps, none :: ms, 0, _, _, h1, h2 => by simp at h2
  | .l :: ps, _ :: ms, 0, _, _, h1, h2 => by simp at h1
  | .z :: ps, _ :: ms, 0, _, _, h1, h2 => by simp at h1
  | .m k :: ps, some d :: ms, j + 1, _, _, h1, h2 => by simpa [postE] using postE_some (j := j) (pm := ps) (ms := ms) (by simpa using h1) (by simpa using h2)
  | .m k :: ps, none :: ms, j + 1, _, _, h1, h2 => by simpa [postE] using postE_some (j := j) (pm := ps) (ms := ms) (by simpa using h1) (by simpa using h2)
  | .l :: ps, _ :: ms, j + 1, _, _, h1, h2 => by simpa [postE] using postE_some (j := j) (pm := ps) (ms := ms) (by simpa using h1) (by simpa using h2)
  | .z :: ps, _ :: ms, j + 1, _, _, h1, h2 => by simpa [postE] using postE_some (j := j) (pm := ps) (ms := ms) (by simpa using h1) (by simpa using h2)
theorem postE_len : ∀ {pm : List PMd} {ms : List (Option D)}, (postE pm ms).length = pm.length
  | [], _ => by simp [postE]
  | .m k :: ps, some d :: ms => by simp [postE, postE_len (pm := ps) (ms := ms)]
  | .m k :: ps, none :: ms => by simp [postE, postE_len (pm := ps) (ms := ms)]
  | .l :: ps, _ :: ms => by simp [postE, postE_len (pm := ps) (ms := ms)]
  | .z :: ps, _ :: ms => by simp [postE, postE_len (pm := ps) (ms := ms)]
  | .m k :: ps, [] => by simp [postE, postE_len (pm := ps) (ms := [])]
  | .l :: ps, [] => by simp [postE, postE_len (pm := ps) (ms := [])]
  | .z :: ps, [] => by simp [postE, postE_len (pm := ps) (ms := [])]

/-! ### the arguments of a call -/
/-- a value; the thing of a slot, lent; the thing of a slot, to be changed -/
inductive Arg where
  | dv (d : D) (md : Md) | ln (i : Nat) | sl (i : Nat)
def Arg.slot : Arg → Slot
  | .dv d md => some (d, md)
  | _ => none
abbrev DU := Env → (List Arg → Env → Prop) → DX → Prop
/-- the values at the places -/
def AtS (σ : L2.St) (xs : List V) (as : List Arg) : Prop := ∀ (j i : Nat) (v : V), (as[j]? = some (Arg.ln i) ∨ as[j]? = some (Arg.sl i)) → xs[j]? = some v → σ[i]? = some (some v)
def tDU (K : PySem.W.Frag) (W : WX) (p : Bool) (m : DU) : TA := fun σ H Q => ∃ (G F0 F : Hp) (env : Env) (tv : List (Option V)) (te : Env) (R : List Arg → Env → Prop) (Ex : DX),
  StD K G F0 F H (σ ++ tv) (env ++ te) ∧ env.length = σ.length ∧ tv.length = te.length ∧ (p = true ∨ NoView te) ∧ WOk K W G F0 tv te Ex ∧ m env R Ex ∧
  ∀ (xs : List V) (as : List Arg) (F' H' : Hp) (env' : Env), R as env' → env'.length = σ.length → xs.length = as.length → AtS σ xs as → StD K G F0 F' H' (σ ++ (tv ++ xs.map some)) (env' ++ (te ++ as.map Arg.slot)) → Q xs H'
def PDU (X : Cx) (W : WX) (p : Bool) (es : List Expr) (m : DU) : Prop := PA X es (tDU X.K W p m)
@[simp ↓] def uNil : DU := fun env R _ => R [] env
@[simp ↓] def uVal (p2 : Bool) (ma : DE) (mb : DU) : DU := fun env R Ex => ma env (fun x mx e1 => viewOk p2 mx ∧ mb e1 (fun ys e2 => R (.dv x mx :: ys) e2) Ex) Ex
def uLn (i : Nat) (mb : DU) : DU := fun env R Ex => (∃ p, env[i]? = some (some p)) ∧ mb env (fun ys e2 => R (.ln i :: ys) e2) Ex
def uSl (i : Nat) (mb : DU) : DU := fun env R Ex => (∃ p, env[i]? = some (some p)) ∧ mb env (fun ys e2 => R (.sl i :: ys) e2) Ex
section
variable {X : Cx} {W : WX} {p p1 p2 : Bool}
theorem pdu_nil : PDU X W true [] uNil := PA.imp pa_nil fun σ H Q ⟨G, F0, F, env, tv, te, R, Ex, S, l1, l2, nv, wo, hm, hk⟩ => hk [] [] F H env hm l1 rfl (fun j i v h => by simp at h) (by simpa using S)
theorem pdu_val {e : Expr} {es : List Expr} {ma : DE} {mb : DU} (ha : PD X W p1 e ma) (hb : PDU X W p2 es mb) (hs : starEach (e :: es) X.env = (false, eval e X.env) :: starEach es X.env := by rfl) : PDU X W (p1 && p2) (e :: es) (uVal p2 ma mb) := by
  refine PA.imp (pa_cons ha hb hs) fun σ H Q ⟨G, F0, F, env, tv, te, R, Ex, S, l1, l2, nv, wo, hm, hk⟩ => ?_
  refine ⟨G, F0, F, env, tv, te, _, Ex, S, l1, l2, and_l nv, wo, hm, fun x dx mx F1 H1 env1 q1 l3 S1 => ?_⟩
  obtain ⟨vo, q1⟩ := q1
  refine ⟨G, F0, F1, env1, tv ++ [some x], te ++ [some (dx, mx)], _, Ex, S1, l3, by simp [l2], ?_, wo.snoc, q1, fun xs as F2 H2 env2 q2 l4 ln at' S2 => ?_⟩
  · rcases vo with vo | vo
    · exact .inl vo
    · exact (and_r nv).imp id fun h => h.snoc vo
  refine hk (x :: xs) (.dv dx mx :: as) F2 H2 env2 q2 l4 (by simp [ln]) (fun j i v h e => ?_) (by simpa [List.append_assoc, Arg.slot] using S2)
  cases j with
  | zero => simp at h
  | succ j => exact at' j i v (by simpa using h) (by simpa using e)
theorem pdu_ref {x : Str} {pos : Pos} {es : List Expr} {mb : DU} {i : Nat} {mk : Nat → Arg} (hmk : mk = Arg.ln ∨ mk = Arg.sl) (hN : X.N[i]? = some x) (hv : Vis X.env.scope x) (hd : (x == ("__debug__" : Str)) = false) (hcd : (x == ("__classdict__" : Str)) = false)
    (hb : PDU X W p2 es mb) (hs : starEach (.Name x pos :: es) X.env = (false, eval (.Name x pos) X.env) :: starEach es X.env) : PDU X W p2 (.Name x pos :: es) (fun env R Ex => (∃ p, env[i]? = some (some p)) ∧ mb env (fun ys e2 => R (mk i :: ys) e2) Ex) := by
  refine PA.imp (pa_cons (pe_var hN hv hd hcd) hb hs) fun σ H Q ⟨G, F0, F, env, tv, te, R, Ex, S, l1, l2, nv, wo, ⟨⟨p, e⟩, hm⟩, hk⟩ => ?_
  obtain ⟨v, as, h, r⟩ := slot_root S l1 e
  refine ⟨v, h, G, F0, F, env, tv, te, _, Ex, S, l1, l2, nv, wo, hm, fun xs as F2 H2 env2 q2 l4 ln at' S2 => ?_⟩
  have S3 : StD X.K G F0 F2 H2 (σ ++ (tv ++ (v :: xs).map some)) (env2 ++ (te ++ (mk i :: as).map Arg.slot)) := by
    have em : (mk i).slot = none := by rcases hmk with rfl | rfl <;> rfl
    refine S2.reix (fun j => if j ≤ env2.length + te.length then j else j - 1) (fun j k hj hk e => ?_) fun j q e1 => ?_
    · have ne : ∀ {k : Nat}, (∃ p, (env2 ++ (te ++ (mk i :: as).map Arg.slot))[k]? = some (some p)) → k ≠ env2.length + te.length := fun {k} ⟨p, hp⟩ z => by
        subst z
        rw [assoc3, List.getElem?_append_right (by simp)] at hp
        simp [em] at hp
      have n1 := ne hj
      have n2 := ne hk
      split at e <;> split at e <;> omega
    · have nj : j ≠ env2.length + te.length := fun z => by
        subst z
        rw [assoc3, List.getElem?_append_right (by simp)] at e1
        simp [em] at e1
      by_cases hj : j ≤ env2.length + te.length
      · rw [if_pos hj]
        have lj : j < (env2 ++ te).length := by simp; omega
        rw [assoc3, List.getElem?_append_left lj] at e1
        refine ⟨by rw [assoc3, List.getElem?_append_left lj]; exact e1, ?_⟩
        have lj' : j < (σ ++ tv).length := by simp at lj ⊢; omega
        rw [assoc3, assoc3, List.getElem?_append_left lj', List.getElem?_append_left lj']
      · rw [if_neg hj]
        have lj : (env2 ++ te).length ≤ j - 1 := by simp; omega
        have lj2 : (σ ++ tv).length ≤ j - 1 := by simp; omega
        rw [assoc3, List.getElem?_append_right (by omega)] at e1
        refine ⟨?_, ?_⟩
        · rw [assoc3, List.getElem?_append_right lj]
          have : j - (env2 ++ te).length = (j - 1 - (env2 ++ te).length) + 1 := by omega
          rw [this] at e1
          simpa using e1
        · rw [assoc3, assoc3, List.getElem?_append_right lj2, List.getElem?_append_right (by omega)]
          have : j - (σ ++ tv).length = (j - 1 - (σ ++ tv).length) + 1 := by omega
          rw [this]; simp
  refine hk (v :: xs) (mk i :: as) F2 H2 env2 q2 l4 (by simp [ln]) (fun j i' v' h' e' => ?_) S3
  cases j with
  | zero =>
    simp at e'; subst e'
    have : i' = i := by rcases hmk with rfl | rfl <;> exact (show i = i' by simpa using h').symm
    subst this; exact h
  | succ j => exact at' j i' v' (by simpa using h') (by simpa using e')
theorem pdu_ln (i : Nat) {x : Str} {pos : Pos} {es : List Expr} {mb : DU} (hb : PDU X W p2 es mb) (hN : X.N[i]? = some x := by rfl) (hv : Vis X.env.scope x := by first | exact Or.inl rfl | exact Or.inr (Or.inl rfl) | exact Or.inr (Or.inr rfl)) (hd : (x == ("__debug__" : Str)) = false := by decide)
    (hcd : (x == ("__classdict__" : Str)) = false := by decide) (hs : starEach (.Name x pos :: es) X.env = (false, eval (.Name x pos) X.env) :: starEach es X.env := by rfl) : PDU X W p2 (.Name x pos :: es) (uLn i mb) := pdu_ref (.inl rfl) hN hv hd hcd hb hs
theorem pdu_sl (i : Nat) {x : Str} {pos : Pos} {es : List Expr} {mb : DU} (hb : PDU X W p2 es mb) (hN : X.N[i]? = some x := by rfl) (hv : Vis X.env.scope x := by first | exact Or.inl rfl | exact Or.inr (Or.inl rfl) | exact Or.inr (Or.inr rfl)) (hd : (x == ("__debug__" : Str)) = false := by decide)
    (hcd : (x == ("__classdict__" : Str)) = false := by decide) (hs : starEach (.Name x pos :: es) X.env = (false, eval (.Name x pos) X.env) :: starEach es X.env := by rfl) : PDU X W p2 (.Name x pos :: es) (uSl i mb) := pdu_ref (.inr rfl) hN hv hd hcd hb hs

/-- the data that the callee sees -/
@[simp ↓] def argsD : List PMd → List Arg → Env → Option (List D)
  | .l :: ps, .dv d _ :: as, e => (argsD ps as e).map (d :: ·)
  | .l :: ps, .ln i :: as, e => match e[i]? with
    | some (some (d, md)) => if md.noview = true then (argsD ps as e).map (d :: ·) else none
    | _ => none
  | .z :: ps, .dv d md :: as, e => if capB d md = true then (argsD ps as e).map (d :: ·) else none
  | .m _ :: ps, .sl i :: as, e => match e[i]? with
    | some (some (d, _)) => (argsD ps as e).map (d :: ·)
    | _ => none
  | _, [], _ => some []
  | _, _, _ => none
/-- the slots that are to be changed have what the callee asks; are apart from one another and from what is lent; no looks stand beside them -/
@[simp ↓] def sls : List Arg → List Nat
  | .sl i :: as => i :: sls as
  | _ :: as => sls as
  | [] => []
@[simp ↓] def lns : List Arg → List Nat
  | .ln i :: as => i :: lns as
  | _ :: as => lns as
  | [] => []
def slOk : List PMd → List Arg → Env → Prop
  | .m k :: ps, .sl i :: as, e => ((∃ d, e[i]? = some (some (d, Md.own k))) ∨ ∃ d v, e[i]? = some (some (d, Md.brw k v))) ∧ slOk ps as e
  | _ :: ps, _ :: as, e => slOk ps as e
  | _, _, _ => True
@[simp ↓] def looks : List Arg → Bool
  | .dv _ md :: as => !md.noview || looks as
  | _ :: as => looks as
  | [] => false
def setD (e : Env) (i : Nat) (o : Option D) : Env := match o, e[i]? with
  | some d, some (some (_, md)) => e.set i (some (d, md))
  | _, _ => e.set i none
def putB : List Arg → List (Option D) → Env → Env
  | .sl i :: as, o :: ms, e => putB as ms (setD e i o)
  | .sl i :: as, [], e => putB as [] (setD e i none)
  | .dv _ _ :: as, _ :: ms, e => putB as ms e
  | .dv _ _ :: as, [], e => putB as [] e
  | .ln _ :: as, _ :: ms, e => putB as ms e
  | .ln _ :: as, [], e => putB as [] e
  | [], _, e => e
def noviewE (e : Env) : Bool := e.all fun x => match x with
  | some (_, md) => md.noview
  | none => true
@[simp ↓] def PMd.plain : PMd → Bool
  | .m _ => false
  | _ => true
/-- a call: sp the promise, dvs the defaults that fill up -/
def callK (pm : List PMd) (dvs : List D) (sp : DSp) (as : List Arg) (e : Env) (R : DQ) (Ex : DX) : Prop :=
  match argsD pm as e with
  | some ds => slOk pm as e ∧ (sls as).Nodup ∧ (∀ i ∈ lns as, i ∉ sls as) ∧ (sls as = [] ∨ (looks as = false ∧ noviewE e = true)) ∧ as.length + dvs.length = pm.length ∧ (pm.drop as.length).all PMd.plain = true ∧ sp (ds ++ dvs) fun out => match out with
    | .ret d md ms => R d md (putB as ms e)
    | .exc x ms => Ex x (putB as ms e)
  | none => False
@[simp ↓] def dCall (pm : List PMd) (dvs : List D) (sp : DSp) (m : DU) : DE := fun env R Ex => m env (fun as e => callK pm dvs sp as e R Ex) Ex

def ArgAt (e : Env) (p : PMd) (a : Arg) (d : D) : Prop := match p, a with
  | .l, .dv d' _ => d' = d
  | .l, .ln i => ∃ md, e[i]? = some (some (d, md)) ∧ md.noview = true
  | .z, .dv d' md => d' = d ∧ capB d md = true
  | .m _, .sl i => ∃ md, e[i]? = some (some (d, md))
  | _, _ => False
theorem argsD_get : ∀ {pm : List PMd} {as : List Arg} {e : Env} {ds : List D}, argsD pm as e = some ds → ds.length = as.length ∧ ∀ (j : Nat) (a : Arg) (p : PMd), as[j]? = some a → pm[j]? = some p → ∃ d, ds[j]? = some d ∧ ArgAt e p a d
  | pm, [], e, ds, h => by
    have : ds = [] := by
      cases pm with
      | nil => simpa [argsD] using h.symm
      | cons p _ => cases p <;> simpa [argsD] using h.symm
    subst this
    exact ⟨rfl, fun j a p h => by simp at h⟩
  | pm, a :: as, e, ds, h => by
    have fin : ∀ {p : PMd} {ps : List PMd} {d : D} {ds' : List D}, pm = p :: ps → argsD ps as e = some ds' → ds = d :: ds' → ArgAt e p a d →
        ds.length = (a :: as).length ∧ ∀ (j : Nat) (a' : Arg) (p : PMd), (a :: as)[j]? = some a' → pm[j]? = some p → ∃ d, ds[j]? = some d ∧ ArgAt e p a' d := fun {p ps d ds'} e1 e2 e3 e4 => by
      obtain ⟨h1, h2⟩ := argsD_get e2
      subst e1 e3
      refine ⟨by simp [h1], fun j a' p' ha hp => ?_⟩
      cases j with
      | zero => simp at ha hp; subst ha hp; exact ⟨d, rfl, e4⟩
      | succ j => simpa using h2 j a' p' (by simpa using ha) (by simpa using hp)
    cases pm with
    | nil => cases a <;> simp [argsD] at h
    | cons p ps =>
      cases p with
      | l =>
        cases a with
        | dv d md =>
          simp only [argsD, Option.map_eq_some_iff] at h
          obtain ⟨ds', h1, h2⟩ := h
          exact fin rfl h1 h2.symm rfl
        | ln i =>
          simp only [argsD] at h
          split at h
          · rename_i d md q
            split at h
            · rename_i hn
              rw [Option.map_eq_some_iff] at h
              obtain ⟨ds', h1, h2⟩ := h
              exact fin rfl h1 h2.symm ⟨md, q, hn⟩
            · cases h
          · cases h
        | sl i => simp [argsD] at h
      | z =>
        cases a with
        | dv d md =>
          simp only [argsD] at h
          split at h
          · rename_i hc
            rw [Option.map_eq_some_iff] at h
            obtain ⟨ds', h1, h2⟩ := h
            exact fin rfl h1 h2.symm ⟨rfl, hc⟩
          · cases h
        | ln i => simp [argsD] at h
        | sl i => simp [argsD] at h
      | m k =>
        cases a with
        | dv d md => simp [argsD] at h
        | ln i => simp [argsD] at h
        | sl i =>
          simp only [argsD] at h
          split at h
          · rename_i d md q
            rw [Option.map_eq_some_iff] at h
            obtain ⟨ds', h1, h2⟩ := h
            exact fin rfl h1 h2.symm ⟨md, q⟩
          · cases h
theorem slOk_get : ∀ {pm : List PMd} {as : List Arg} {e : Env}, slOk pm as e → ∀ (j i : Nat) (k : Mask), as[j]? = some (.sl i) → pm[j]? = some (.m k) → (∃ d, e[i]? = some (some (d, Md.own k))) ∨ ∃ d v, e[i]? = some (some (d, Md.brw k v))
  | [], _, _, _, _, _, _, _, h => by simp at h
  | _ :: _, [], _, _, _, _, _, h, _ => by simp at h
  | p :: ps, a :: as, e, h, 0, i, k, h1, h2 => by
    simp at h1 h2
    subst h1 h2
    exact h.1
  | p :: ps, a :: as, e, h, j + 1, i, k, h1, h2 => by
    have h' : slOk ps as e := by
      cases p <;> cases a <;> first | exact h | exact h.2
    exact slOk_get h' j i k (by simpa using h1) (by simpa using h2)
theorem mem_sls : ∀ {as : List Arg} {i : Nat}, i ∈ sls as ↔ ∃ j : Nat, as[j]? = some (.sl i)
  | [], i => by simp [sls]
  | .sl k :: as, i => by
    simp only [sls, List.mem_cons, mem_sls (as := as)]
    constructor
    · rintro (rfl | ⟨j, h⟩)
      · exact ⟨0, rfl⟩
      · exact ⟨j + 1, by simpa using h⟩
    · rintro ⟨j, h⟩
      cases j with
      | zero => simp at h; exact .inl h.symm
      | succ j => exact .inr ⟨j, by simpa using h⟩
  | .dv d md :: as, i => by
    simp only [sls, mem_sls (as := as)]
    constructor
    · rintro ⟨j, h⟩; exact ⟨j + 1, by simpa using h⟩
    · rintro ⟨j, h⟩
      cases j with
      | zero => simp at h
      | succ j => exact ⟨j, by simpa using h⟩
  | .ln k :: as, i => by
    simp only [sls, mem_sls (as := as)]
    constructor
    · rintro ⟨j, h⟩; exact ⟨j + 1, by simpa using h⟩
    · rintro ⟨j, h⟩
      cases j with
      | zero => simp at h
      | succ j => exact ⟨j, by simpa using h⟩
theorem mem_lns : ∀ {as : List Arg} {j i : Nat}, as[j]? = some (.ln i) → i ∈ lns as
  | [], _, _, h => by simp at h
  | a :: as, 0, i, h => by simp at h; subst h; simp [lns]
  | a :: as, j + 1, i, h => by
    have := mem_lns (as := as) (j := j) (i := i) (by simpa using h)
    cases a <;> simp [lns, this]
theorem sl_inj : ∀ {as : List Arg} {j k i : Nat}, (sls as).Nodup → as[j]? = some (.sl i) → as[k]? = some (.sl i) → j = k
  | [], _, _, _, _, h, _ => by simp at h
  | a :: as, 0, 0, _, _, _, _ => rfl
  | a :: as, 0, k + 1, i, nd, h1, h2 => by
    simp at h1; subst h1
    simp only [sls, List.nodup_cons] at nd
    exact absurd (mem_sls.mpr ⟨k, by simpa using h2⟩) nd.1
  | a :: as, j + 1, 0, i, nd, h1, h2 => by
    simp at h2; subst h2
    simp only [sls, List.nodup_cons] at nd
    exact absurd (mem_sls.mpr ⟨j, by simpa using h1⟩) nd.1
  | a :: as, j + 1, k + 1, i, nd, h1, h2 => by
    have nd' : (sls as).Nodup := by
      cases a with
      | sl x => simp only [sls, List.nodup_cons] at nd; exact nd.2
      | dv _ _ => exact nd
      | ln _ => exact nd
    rw [sl_inj (as := as) (j := j) (k := k) nd' (by simpa using h1) (by simpa using h2)]
theorem looks_get : ∀ {as : List Arg} {j : Nat} {d : D} {md : Md}, looks as = false → as[j]? = some (.dv d md) → md.noview = true
  | [], _, _, _, _, h => by simp at h
  | a :: as, 0, d, md, hl, h => by
    simp at h; subst h
    simp only [looks, Bool.or_eq_false_iff] at hl
    simpa using hl.1
  | a :: as, j + 1, d, md, hl, h => by
    refine looks_get (as := as) (j := j) ?_ (by simpa using h)
    cases a with
    | dv _ _ => simp only [looks, Bool.or_eq_false_iff] at hl; exact hl.2
    | ln _ => exact hl
    | sl _ => exact hl
theorem setD_len {e : Env} {i : Nat} {o : Option D} : (setD e i o).length = e.length := by unfold setD; split <;> simp
theorem putB_len : ∀ {as : List Arg} {ms : List (Option D)} {e : Env}, (putB as ms e).length = e.length
  | [], _, _ => by simp [putB]
  | .sl i :: as, o :: ms, e => by rw [putB, putB_len, setD_len]
  | .sl i :: as, [], e => by rw [putB, putB_len, setD_len]
  | .dv _ _ :: as, _ :: ms, e => by rw [putB, putB_len]
  | .ln _ :: as, _ :: ms, e => by rw [putB, putB_len]
  | .dv _ _ :: as, [], e => by rw [putB, putB_len]
  | .ln _ :: as, [], e => by rw [putB, putB_len]
/-- a slot behind the call: as it was, or changed -/
theorem putB_get : ∀ {as : List Arg} {ms : List (Option D)} {e : Env} {i : Nat} {d : D} {md : Md}, (sls as).Nodup → (putB as ms e)[i]? = some (some (d, md)) →
    (i ∉ sls as ∧ e[i]? = some (some (d, md))) ∨ ∃ (j : Nat) (d0 : D), as[j]? = some (.sl i) ∧ ms[j]? = some (some d) ∧ e[i]? = some (some (d0, md))
  | [], _, _, _, _, _, _, h => .inl ⟨by simp [sls], by simpa [putB] using h⟩
  | .sl k :: as, o :: ms, e, i, d, md, nd, h => by
    simp only [sls, List.nodup_cons] at nd
    rw [putB] at h
    rcases putB_get nd.2 h with ⟨h1, h2⟩ | ⟨j, d0, h1, h2, h3⟩
    · by_cases hk : i = k
      · subst hk
        refine .inr ?_
        unfold setD at h2
        split at h2
        · rename_i d1 d2 md2 q
          have hi := (List.getElem?_eq_some_iff.mp q).1
          rw [List.getElem?_set_self hi] at h2
          cases h2
          exact ⟨0, d2, rfl, rfl, q⟩
        · by_cases hi : i < e.length
          · rw [List.getElem?_set_self hi] at h2; cases h2
          · rw [List.getElem?_eq_none (by simpa using hi)] at h2; cases h2
      · refine .inl ⟨by simp [sls, hk, h1], ?_⟩
        unfold setD at h2
        split at h2 <;> (rw [List.getElem?_set_ne (Ne.symm hk)] at h2; exact h2)
    · have hk : i ≠ k := fun z => by subst z; exact nd.1 (mem_sls.mpr ⟨j, h1⟩)
      refine .inr ⟨j + 1, d0, by simpa using h1, by simpa using h2, ?_⟩
      unfold setD at h3
      split at h3 <;> (rw [List.getElem?_set_ne (Ne.symm hk)] at h3; exact h3)
  | .sl k :: as, [], e, i, d, md, nd, h => by
    simp only [sls, List.nodup_cons] at nd
    rw [putB] at h
    rcases putB_get nd.2 h with ⟨h1, h2⟩ | ⟨j, d0, h1, h2, h3⟩
    · by_cases hk : i = k
      · subst hk
        unfold setD at h2
        split at h2
        · rename_i q _; cases q
        · by_cases hi : i < e.length
          · rw [List.getElem?_set_self hi] at h2; cases h2
          · rw [List.getElem?_eq_none (by simpa using hi)] at h2; cases h2
      · refine .inl ⟨by simp [sls, hk, h1], ?_⟩
        unfold setD at h2
        split at h2 <;> (rw [List.getElem?_set_ne (Ne.symm hk)] at h2; exact h2)
    · simp at h2
  | .dv _ _ :: as, o :: ms, e, i, d, md, nd, h => by
    rw [putB] at h
    rcases putB_get (as := as) nd h with h | ⟨j, d0, h1, h2, h3⟩
    · exact .inl h
    · exact .inr ⟨j + 1, d0, by simpa using h1, by simpa using h2, h3⟩
  | .ln _ :: as, o :: ms, e, i, d, md, nd, h => by
    rw [putB] at h
    rcases putB_get (as := as) nd h with h | ⟨j, d0, h1, h2, h3⟩
    · exact .inl h
    · exact .inr ⟨j + 1, d0, by simpa using h1, by simpa using h2, h3⟩
  | .dv _ _ :: as, [], e, i, d, md, nd, h => by
    rw [putB] at h
    rcases putB_get (as := as) nd h with h | ⟨j, d0, h1, h2, h3⟩
    · exact .inl h
    · simp at h2
  | .ln _ :: as, [], e, i, d, md, nd, h => by
    rw [putB] at h
    rcases putB_get (as := as) nd h with h | ⟨j, d0, h1, h2, h3⟩
    · exact .inl h
    · simp at h2
end
end DL
/-! D layer, part 6: a call is sound. -/
namespace DL
open PySem PySem.Spec PyProof.Rows L2

def frzA : List PMd → List Arg → List Arg
  | .z :: ps, .dv d _ :: as => .dv d .frz :: frzA ps as
  | _ :: ps, a :: as => a :: frzA ps as
  | _, as => as
theorem frzA_len : ∀ {pm : List PMd} {as : List Arg}, (frzA pm as).length = as.length
  | [], as => by simp [frzA]
  | p :: ps, [] => by cases p <;> simp [frzA]
  | p :: ps, a :: as => by cases p <;> cases a <;> simp [frzA, frzA_len (pm := ps) (as := as)]
theorem frzA_get : ∀ {pm : List PMd} {as : List Arg} {j : Nat} {a : Arg}, as[j]? = some a → (frzA pm as)[j]? = some a ∨ ∃ d md, a = .dv d md ∧ pm[j]? = some .z ∧ (frzA pm as)[j]? = some (.dv d .frz)
  | [], as, j, a, h => .inl (by simpa [frzA] using h)
  | p :: ps, [], j, a, h => by simp at h
  | p :: ps, b :: as, 0, a, h => by
    simp at h; subst h
    cases p <;> cases b <;> simp [frzA]
  | p :: ps, b :: as, j + 1, a, h => by
    have := frzA_get (pm := ps) (as := as) (j := j) (by simpa using h)
    cases p <;> cases b <;> simpa [frzA] using this
theorem frzA_z : ∀ {pm : List PMd} {as : List Arg} {j : Nat} {d : D} {md : Md}, as[j]? = some (.dv d md) → pm[j]? = some .z → (frzA pm as)[j]? = some (.dv d .frz)
  | [], as, j, d, md, h, h2 => by simp at h2
  | p :: ps, [], j, d, md, h, _ => by simp at h
  | p :: ps, b :: as, 0, d, md, h, h2 => by
    simp at h h2; subst h h2
    simp [frzA]
  | p :: ps, b :: as, j + 1, d, md, h, h2 => by
    have := frzA_z (pm := ps) (as := as) (j := j) (by simpa using h) (by simpa using h2)
    cases p <;> cases b <;> simpa [frzA] using this
section
variable {K : PySem.W.Frag} {G F0 H : Hp}
theorem StD.capZ {e : Env} : ∀ {pm : List PMd} {as : List Arg} {xs : List V} {ds : List D} {F : Hp} {vs : List (Option V)} {es : Env}, StD K G F0 F H (vs ++ xs.map some) (es ++ as.map Arg.slot) → vs.length = es.length → xs.length = as.length → argsD pm as e = some ds →
    ∃ F', Same F F' ∧ StD K G F0 F' H (vs ++ xs.map some) (es ++ (frzA pm as).map Arg.slot)
  | pm, [], [], ds, F, vs, es, S, hl, _, _ => ⟨F, fun _ _ q => q, by
    have : frzA pm [] = [] := by
      cases pm with
      | nil => rfl
      | cons p _ => cases p <;> rfl
    rw [this]; exact S⟩
  | _, [], _ :: _, _, _, _, _, _, _, h, _ => by simp at h
  | _, _ :: _, [], _, _, _, _, _, _, h, _ => by simp at h
  | [], a :: as, _ :: _, ds, _, _, _, _, _, _, h => by cases a <;> simp [argsD] at h
  | p :: ps, a :: as, x :: xs, ds, F, vs, es, S, hl, hn, h => by
    have go : ∀ {a' : Arg} {ds' : List D} {F1 : Hp}, argsD ps as e = some ds' → Same F F1 → frzA (p :: ps) (a :: as) = a' :: frzA ps as → StD K G F0 F1 H (vs ++ (x :: xs).map some) (es ++ (a' :: as).map Arg.slot) →
        ∃ F', Same F F' ∧ StD K G F0 F' H (vs ++ (x :: xs).map some) (es ++ (frzA (p :: ps) (a :: as)).map Arg.slot) := fun {a' ds' F1} h1 e1 h2 S1 => by
      obtain ⟨F2, e2, S2⟩ := StD.capZ (pm := ps) (as := as) (xs := xs) (vs := vs ++ [some x]) (es := es ++ [a'.slot]) (by simpa [List.append_assoc] using S1) (by simp [hl]) (by simpa using hn) h1
      exact ⟨F2, fun _ _ q => e2 _ _ (e1 _ _ q), by rw [h2]; simpa [List.append_assoc] using S2⟩
    cases p with
    | l =>
      cases a with
      | dv d md =>
        simp only [argsD, Option.map_eq_some_iff] at h
        obtain ⟨ds', h1, _⟩ := h
        exact go h1 (fun _ _ q => q) rfl S
      | ln i =>
        simp only [argsD] at h
        split at h
        · split at h
          · rw [Option.map_eq_some_iff] at h
            obtain ⟨ds', h1, _⟩ := h
            exact go h1 (fun _ _ q => q) rfl S
          · cases h
        · cases h
      | sl i => simp [argsD] at h
    | z =>
      cases a with
      | dv d md =>
        simp only [argsD] at h
        split at h
        · rename_i hc
          rw [Option.map_eq_some_iff] at h
          obtain ⟨ds', h1, _⟩ := h
          obtain ⟨F1, e1, S1, _⟩ := S.cap (i := es.length) (d := d) (md := md) (by simp [Arg.slot]) hc
          refine go h1 e1 rfl ?_
          rw [List.set_append_right _ _ (Nat.le_refl _)] at S1
          simpa [Arg.slot] using S1
        · cases h
      | ln i => simp [argsD] at h
      | sl i => simp [argsD] at h
    | m k =>
      cases a with
      | dv d md => simp [argsD] at h
      | ln i => simp [argsD] at h
      | sl i =>
        simp only [argsD] at h
        split at h
        · rw [Option.map_eq_some_iff] at h
          obtain ⟨ds', h1, _⟩ := h
          exact go h1 (fun _ _ q => q) rfl S
        · cases h

/-- the ground of a call: all but what is handed to be changed -/
theorem ground {A : Nat → List Addr} (is : List Nat) : ∃ G1 : Hp, (∀ a o, G1 a = some o → H a = some o) ∧ (∀ a, (∃ i ∈ is, a ∈ A i) → G1 a = none) ∧ (∀ a, (∀ i ∈ is, a ∉ A i) → G1 a = H a) := by
  refine ⟨fun a => if is.any (fun i => decide (a ∈ A i)) = true then none else H a, fun a o h => ?_, fun a h => ?_, fun a h => ?_⟩
  · dsimp only at h
    split at h
    · cases h
    · exact h
  · dsimp only
    obtain ⟨i, h1, h2⟩ := h
    rw [if_pos (List.any_eq_true.mpr ⟨i, h1, decide_eq_true h2⟩)]
  · dsimp only
    rw [if_neg fun q => ?_]
    obtain ⟨i, h1, h2⟩ := List.any_eq_true.mp q
    exact h i h1 (of_decide_eq_true h2)

theorem RtO.some {F : Hp} {x : Option (Option V)} {e : Option Slot} {as : List Addr} {d : D} {md : Md} (h : RtO K G F H x e as) (q : e = some (some (d, md))) : ∃ v, x = Option.some (Option.some v) ∧ Rt K G F H v d md as := by
  subst q; exact h

theorem noviewE_get {e : Env} {i : Nat} {d : D} {md : Md} (h : noviewE e = true) (q : e[i]? = some (some (d, md))) : md.noview = true := by
  have := List.all_eq_true.mp h _ (List.mem_of_getElem? q)
  simpa using this

/-- what stands behind a call, for the caller -/
theorem call_exit {F1 F' G1 H' : Hp} {σ : L2.St} {env te : Env} {tv : List (Option V)} {xs dw : List V} {as0 as : List Arg} {pm : List PMd} {ms : List (Option D)} {ro : Option V} {re : Slot} {A : Nat → List Addr}
    (S : StD K G F0 F1 H (σ ++ (tv ++ xs.map some)) (env ++ (te ++ as0.map Arg.slot))) (hA1 : ∀ i, RtO K G F1 H (σ ++ (tv ++ xs.map some))[i]? (env ++ (te ++ as0.map Arg.slot))[i]? (A i)) (hA2 : ∀ i, (A i).Nodup)
    (hA3 : ∀ i j a, a ∈ A i → a ∈ A j → i = j) (hA4 : ∀ i a, a ∈ A i → F1 a = none ∧ G a = none) (l1 : env.length = σ.length) (l2 : tv.length = te.length) (ln : xs.length = as.length) (at' : AtS σ xs as)
    {ds : List D} (ha : argsD pm as env = some ds) (nd : (sls as).Nodup) (so : slOk pm as env) (nv : sls as = [] ∨ (noviewE env = true ∧ NoView te)) (lp : as.length ≤ pm.length) (hre : ∀ d md, re = some (d, md) → md.given = true)
    (g1 : ∀ a o, G1 a = some o → H a = some o) (g2 : ∀ a, (∃ i ∈ sls as, a ∈ A i) → G1 a = none) (g3 : ∀ a, (∀ i ∈ sls as, a ∉ A i) → G1 a = H a)
    (S2 : StD K G1 F1 F' H' (ro :: (xs ++ dw).map some) (re :: postE pm ms)) :
    StD K G F0 F' H' (σ ++ (tv ++ [ro])) (putB as ms env ++ (te ++ [re])) := by
  obtain ⟨B, hB1, hB2, hB3, hB4⟩ := S2.rts
  have GG : Same G G1 := fun a o q => by
    rw [g3 a fun i _ ha => by rw [(hA4 i a ha).2] at q; cases q]
    exact S.gh _ _ q
  have nG : ∀ a, G1 a = none → G a = none := fun a q => by
    cases e : G a with
    | none => rfl
    | some o => rw [GG _ _ e] at q; cases q
  -- an old root that is not changed
  have old : ∀ i a, i ∉ sls as → a ∈ A i → ∃ o, H a = some o ∧ G1 a = some o := fun i a hi ha => by
    obtain ⟨o, e⟩ := (hA1 i).there a ha
    refine ⟨o, e, ?_⟩
    rw [g3 a fun k hk hak => by rw [hA3 i k a ha hak] at hi; exact hi hk]
    exact e
  have oldF : ∀ i a, i ∉ sls as → a ∈ A i → F' a = none ∧ G a = none := fun i a hi ha => by
    obtain ⟨o, e1, e2⟩ := old i a hi ha
    refine ⟨?_, (hA4 i a ha).2⟩
    cases q : F' a with
    | none => rfl
    | some u =>
      rcases S2.fg a u q with z | z
      · rw [(hA4 i a ha).1] at z; cases z
      · rw [e2] at z; cases z
  have keep : ∀ {i : Nat} {v : V} {d : D} {md : Md}, i ∉ sls as → (sls as = [] ∨ md.noview = true) → Rt K G F1 H v d md (A i) → Rt K G F' H' v d md (A i) := fun {i v d md} hi hv r => by
    by_cases e : sls as = []
    · refine r.mono S2.f0 fun a o q => S2.gh _ _ ?_
      rw [g3 a fun k hk => by rw [e] at hk; exact absurd hk List.not_mem_nil]
      exact q
    · refine r.keep S2.f0 (hv.resolve_left e) fun a o ha q => ?_
      obtain ⟨o', e1, e2⟩ := old i a hi ha
      rw [q] at e1; cases e1
      exact S2.gh _ _ e2
  have plen : (postE pm ms).length = pm.length := postE_len
  have slt : ∀ i ∈ sls as, i < env.length := fun i hi => by
    obtain ⟨j, hj⟩ := mem_sls.mp hi
    have hjl : j < as.length := (List.getElem?_eq_some_iff.mp hj).1
    obtain ⟨v, hv⟩ : ∃ v, xs[j]? = some v := ⟨xs[j], by simp⟩
    have := at' j i v (.inr hj) hv
    have := (List.getElem?_eq_some_iff.mp this).1
    omega
  classical
  let idx : Nat → Option Nat := fun i => if h : ∃ j : Nat, as[j]? = some (.sl i) then some h.choose else none
  have idxS : ∀ {i j}, idx i = some j → as[j]? = some (.sl i) := fun {i j} h => by
    dsimp only [idx] at h
    split at h
    · rename_i q; cases h; exact q.choose_spec
    · cases h
  have idxN : ∀ {i}, idx i = none → i ∉ sls as := fun {i} h hi => by
    dsimp only [idx] at h
    rw [dif_pos (mem_sls.mp hi)] at h; cases h
  have idxE : ∀ {i j}, as[j]? = some (.sl i) → idx i = some j := fun {i j} h => by
    dsimp only [idx]
    have q : ∃ j : Nat, as[j]? = some (.sl i) := ⟨j, h⟩
    rw [dif_pos q, sl_inj nd q.choose_spec h]
  let C : Nat → List Addr := fun i => if i < env.length then (match idx i with | some j => if (∃ d md, (putB as ms env)[i]? = some (some (d, md))) then B (j + 1) else [] | none => A i) else if i < env.length + te.length then A i else if i = env.length + te.length then B 0 else []
  have leP : (putB as ms env).length = env.length := putB_len
  have Cmem : ∀ i a, a ∈ C i → (i < env.length ∧ ∃ j, idx i = some j ∧ a ∈ B (j + 1)) ∨ ((i < env.length + te.length) ∧ i ∉ sls as ∧ a ∈ A i) ∨ (i = env.length + te.length ∧ a ∈ B 0) := fun i a ha => by
    dsimp only [C] at ha
    split at ha
    · rename_i hi
      split at ha
      · rename_i j hj
        split at ha
        · exact .inl ⟨hi, j, hj, ha⟩
        · exact absurd ha List.not_mem_nil
      · rename_i hj
        exact .inr (.inl ⟨by omega, idxN hj, ha⟩)
    · rename_i hi
      split at ha
      · rename_i hi2
        exact .inr (.inl ⟨hi2, fun q => hi (slt i q), ha⟩)
      · split at ha
        · rename_i e
          exact .inr (.inr ⟨e, ha⟩)
        · exact absurd ha List.not_mem_nil
  have BG : ∀ k a, a ∈ B k → F' a = none ∧ G a = none := fun k a ha => ⟨(hB4 k a ha).1, nG a (hB4 k a ha).2⟩
  have AB : ∀ i k a, i ∉ sls as → a ∈ A i → a ∈ B k → False := fun i k a hi ha hb => by
    obtain ⟨o, _, e⟩ := old i a hi ha
    rw [(hB4 k a hb).2] at e; cases e
  refine ⟨fun a o q => S2.gh _ _ (GG _ _ q), S2.fh, fun a o q => S2.f0 _ _ (S.f0 _ _ q), fun a o q => ?_, S2.tu, C, fun i => ?_, fun i => ?_, fun i j a ha hb => ?_, fun i a ha => ?_⟩
  · rcases S2.fg a o q with z | z
    · exact S.fg a o z
    · exact .inr (nG a z)
  · -- the roots
    by_cases hi : i < env.length
    · have e1 : (putB as ms env ++ (te ++ [re]))[i]? = (putB as ms env)[i]? := List.getElem?_append_left (by omega)
      have e2 : (σ ++ (tv ++ [ro]))[i]? = σ[i]? := List.getElem?_append_left (by omega)
      rw [e1, e2]
      cases q : (putB as ms env)[i]? with
      | none => rw [List.getElem?_eq_none_iff] at q; omega
      | some sl =>
        cases sl with
        | none =>
          show C i = []
          dsimp only [C]
          rw [if_pos hi]
          split
          · rw [if_neg]
            rintro ⟨d, md, z⟩
            rw [q] at z; cases z
          · rename_i hj
            have hn := idxN hj
            -- not changed: the slot was empty
            have pe : ∀ {as : List Arg} {ms : List (Option D)} {e : Env}, i ∉ sls as → (putB as ms e)[i]? = e[i]? := by
              intro as
              induction as with
              | nil => intro ms e _; simp [putB]
              | cons a as ih =>
                intro ms e hn
                cases a with
                | sl k =>
                  simp only [sls, List.mem_cons, not_or] at hn
                  have sd : ∀ o, (setD e k o)[i]? = e[i]? := fun o => by
                    unfold setD
                    split <;> rw [List.getElem?_set_ne (Ne.symm hn.1)]
                  cases ms with
                  | nil => rw [putB, ih hn.2, sd]
                  | cons o ms => rw [putB, ih hn.2, sd]
                | dv d md => cases ms with
                  | nil => rw [putB, ih hn]
                  | cons o ms => rw [putB, ih hn]
                | ln k => cases ms with
                  | nil => rw [putB, ih hn]
                  | cons o ms => rw [putB, ih hn]
            rw [pe hn] at q
            have := hA1 i
            rw [List.getElem?_append_left hi, q] at this
            exact this
        | some dm =>
          obtain ⟨d, md⟩ := dm
          rcases putB_get nd q with ⟨hn, q2⟩ | ⟨j, d0, h1, h2, h3⟩
          · have r := hA1 i
            rw [List.getElem?_append_left hi, q2, List.getElem?_append_left (by omega)] at r
            obtain ⟨v, hv, r⟩ := r
            have ci : C i = A i := by
              dsimp only [C]
              rw [if_pos hi]
              split
              · rename_i j hj
                exact absurd (mem_sls.mpr ⟨j, idxS hj⟩) hn
              · rfl
            rw [ci]
            exact ⟨v, hv, keep hn (nv.imp id fun h => noviewE_get h.1 q2) r⟩
          · have hjl : j < as.length := (List.getElem?_eq_some_iff.mp h1).1
            obtain ⟨v, hv⟩ : ∃ v, xs[j]? = some v := ⟨xs[j], by simp⟩
            have sv := at' j i v (.inr h1) hv
            obtain ⟨p, hp⟩ : ∃ p, pm[j]? = some p := ⟨pm[j], by simp⟩
            have r := hA1 i
            rw [List.getElem?_append_left hi, h3, List.getElem?_append_left (by omega), sv] at r
            obtain ⟨v1, e1, r⟩ := r
            cases e1
            have ci : C i = B (j + 1) := by
              dsimp only [C]
              rw [if_pos hi, idxE h1]
              dsimp only
              rw [if_pos ⟨d, md, q⟩]
            rw [ci]
            refine ⟨v, sv, ?_⟩
            -- the parameter's mode
            have pk : ∃ k, p = .m k := by
              obtain ⟨d', _, q'⟩ := (argsD_get ha).2 j _ p h1 hp
              cases p with
              | m k => exact ⟨k, rfl⟩
              | l => exact q'.elim
              | z => exact q'.elim
            obtain ⟨k, rfl⟩ := pk
            have pr := hB1 (j + 1)
            rw [List.getElem?_cons_succ, List.getElem?_cons_succ, postE_some hp h2] at pr
            obtain ⟨v2, e2, ow⟩ := pr
            have e3 : ((xs ++ dw).map some)[j]? = some (some v) := by
              rw [List.getElem?_map, List.getElem?_append_left (by omega), hv]; rfl
            rw [e3] at e2; cases e2
            rcases slOk_get so j i k h1 hp with ⟨d1, e⟩ | ⟨d1, v0, e⟩
            · rw [h3] at e; cases e
              exact ow
            · rw [h3] at e; cases e
              exact ⟨r.1, ow⟩
    · by_cases hi2 : i < env.length + te.length
      · have e1 : (putB as ms env ++ (te ++ [re]))[i]? = te[i - env.length]? := by
          rw [List.getElem?_append_right (by omega), List.getElem?_append_left (by omega), leP]
        have e2 : (σ ++ (tv ++ [ro]))[i]? = tv[i - env.length]? := by
          rw [List.getElem?_append_right (by omega), List.getElem?_append_left (by omega), l1]
        have r := hA1 i
        have e3 : (env ++ (te ++ as0.map Arg.slot))[i]? = te[i - env.length]? := by
          rw [List.getElem?_append_right (by omega), List.getElem?_append_left (by omega)]
        have e4 : (σ ++ (tv ++ xs.map some))[i]? = tv[i - env.length]? := by
          rw [List.getElem?_append_right (by omega), List.getElem?_append_left (by omega), l1]
        rw [e1, e2]
        rw [e3, e4] at r
        have ci : C i = A i := by
          dsimp only [C]
          rw [if_neg hi, if_pos hi2]
        rw [ci]
        unfold RtO at r ⊢
        split at r
        · rename_i d md q
          obtain ⟨v, hv, r⟩ := r
          exact ⟨v, hv, keep (fun z => hi (slt i z)) (nv.imp id fun h => h.2 _ (List.mem_of_getElem? q) d md rfl) r⟩
        · exact r
      · by_cases hi3 : i = env.length + te.length
        · subst hi3
          have e1 : (putB as ms env ++ (te ++ [re]))[env.length + te.length]? = some re := get_snoc (by omega)
          have e2 : (σ ++ (tv ++ [ro]))[env.length + te.length]? = some ro := get_snoc (by omega)
          rw [e1, e2]
          have ci : C (env.length + te.length) = B 0 := by
            dsimp only [C]
            rw [if_neg hi, if_neg hi2, if_pos rfl]
          rw [ci]
          have r := hB1 0
          cases re with
          | none => exact r
          | some dm =>
            obtain ⟨d, md⟩ := dm
            obtain ⟨v, hv, r⟩ := r
            refine ⟨v, hv, ?_⟩
            have hg := hre d md rfl
            cases md with
            | frz => exact r
            | own m => exact r
            | lent => cases hg
            | view m => cases hg
            | brw m v => cases hg
        · have e1 : (putB as ms env ++ (te ++ [re]))[i]? = none := by rw [List.getElem?_eq_none_iff]; simp; omega
          rw [e1]
          show C i = []
          dsimp only [C]
          rw [if_neg hi, if_neg hi2, if_neg hi3]
  · dsimp only [C]
    split
    · split
      · split
        · exact hB2 _
        · exact List.nodup_nil
      · exact hA2 _
    · split
      · exact hA2 _
      · split
        · exact hB2 _
        · exact List.nodup_nil
  · rcases Cmem i a ha with ⟨h1, j1, h2, h3⟩ | ⟨h1, h2, h3⟩ | ⟨h1, h2⟩ <;> rcases Cmem j a hb with ⟨k1, j2, k2, k3⟩ | ⟨k1, k2, k3⟩ | ⟨k1, k2⟩
    · have := hB3 _ _ a h3 k3
      have e : j1 = j2 := by omega
      subst e
      have z1 := idxS h2
      have z2 := idxS k2
      rw [z1] at z2; cases z2; rfl
    · exact (AB _ _ a k2 k3 h3).elim
    · have := hB3 _ _ a h3 k2; omega
    · exact (AB _ _ a h2 h3 k3).elim
    · exact hA3 _ _ a h3 k3
    · exact (AB _ _ a h2 h3 k2).elim
    · have := hB3 _ _ a h2 k3; omega
    · exact (AB _ _ a k2 k3 h2).elim
    · omega
  · rcases Cmem i a ha with ⟨_, j1, _, h3⟩ | ⟨_, h2, h3⟩ | ⟨_, h2⟩
    · exact BG _ a h3
    · exact oldF i a h2 h3
    · exact BG _ a h2

def SpM (sp : DSp) : Prop := ∀ ds (Q Q' : DOut → Prop), (∀ o, Q o → Q' o) → sp ds Q → sp ds Q'
theorem call_core {F : Hp} {σ : L2.St} {env te : Env} {tv : List (Option V)} {xs dw : List V} {as : List Arg} {pm : List PMd} {dvs : List D} {sp : DSp} {R : DQ} {Ex : DX} {Q : VK} {E : XK} (mono : SpM sp)
    (S : StD K G F0 F H (σ ++ (tv ++ xs.map some)) (env ++ (te ++ as.map Arg.slot))) (l1 : env.length = σ.length) (l2 : tv.length = te.length) (ln : xs.length = as.length) (at' : AtS σ xs as) (nv : sls as = [] ∨ NoView te)
    (hk : callK pm dvs sp as env R Ex) (hd : ∀ Z, DvA K Z dw dvs)
    (kQ : ∀ (v : V) (d : D) (md : Md) (F' H' : Hp) (env' : Env), R d md env' → env'.length = σ.length → StD K G F0 F' H' (σ ++ (tv ++ [some v])) (env' ++ (te ++ [some (d, md)])) → Q v H')
    (kE : ∀ (x : XD) (env' : Env) (cls : Value) (dx : Option Addr) (F' H' : Hp), Ex x env' → env'.length = σ.length → StD K G F0 F' H' (σ ++ tv) (env' ++ te) → XR K F' H' x cls dx → E cls dx H') : lift K pm sp (xs ++ dw) H Q E := by
  unfold callK at hk
  split at hk
  · rename_i ds hds
    obtain ⟨so, nd, nl, nlk, len, dpl, hsp⟩ := hk
    obtain ⟨dl, dg⟩ := argsD_get hds
    obtain ⟨F1, eF, S1⟩ := StD.capZ (vs := σ ++ tv) (es := env ++ te) (pm := pm) (e := env) (by simpa [List.append_assoc] using S) (by simp [l1, l2]) ln hds
    have S1 : StD K G F0 F1 H (σ ++ (tv ++ xs.map some)) (env ++ (te ++ (frzA pm as).map Arg.slot)) := by simpa [List.append_assoc] using S1
    obtain ⟨A, hA1, hA2, hA3, hA4⟩ := S1.rts
    obtain ⟨G1, g1, g2, g3⟩ := ground (H := H) (A := A) (sls as)
    have dwl := (hd H).length
    have lp : as.length ≤ pm.length := by omega
    have nv' : sls as = [] ∨ (noviewE env = true ∧ NoView te) := by
      rcases nv with h | h
      · exact .inl h
      · exact nlk.imp id fun q => ⟨q.2, h⟩
    have slt : ∀ i ∈ sls as, i < env.length := fun i hi => by
      obtain ⟨j, hj⟩ := mem_sls.mp hi
      have hjl : j < as.length := (List.getElem?_eq_some_iff.mp hj).1
      have := at' j i xs[j] (.inr hj) (by simp)
      have := (List.getElem?_eq_some_iff.mp this).1
      omega
    have FG : Same F1 G1 := fun a o q => by
      rw [g3 a fun i _ ha => by rw [(hA4 i a ha).1] at q; cases q]
      exact S1.fh _ _ q
    have GG : Same G G1 := fun a o q => by
      rw [g3 a fun i _ ha => by rw [(hA4 i a ha).2] at q; cases q]
      exact S1.gh _ _ q
    -- a root that is not changed, as the callee sees it
    have see : ∀ {i : Nat} {v : V} {d : D} {md : Md}, i ∉ sls as → (sls as = [] ∨ md.noview = true) → Rt K G F1 H v d md (A i) → RtO K G F1 H (some (some v)) (some (some (d, md))) (A i) → Dv K G1 v d := fun {i v d md} hi hv r r' => by
      by_cases e : sls as = []
      · have HG : Same H G1 := fun a o q => by
          rw [g3 a fun k hk => by rw [e] at hk; exact absurd hk List.not_mem_nil]; exact q
        exact (r.dv S1.fh S1.gh).mono HG
      · have hv := hv.resolve_left e
        have kp : ∀ a o, a ∈ A i → H a = some o → G1 a = some o := fun a o ha q => by
          rw [g3 a fun k hk hak => by rw [hA3 i k a ha hak] at hi; exact hi hk]; exact q
        cases md with
        | frz => exact r.1.mono FG
        | lent => exact r.1.mono GG
        | view m => cases hv
        | own m => exact Ow.dv FG r kp
        | brw m v0 => exact Ow.dv FG r.2 kp
    have rootA : ∀ {j : Nat} {a : Arg} {v : V} {d : D} {md : Md}, (frzA pm as)[j]? = some a → a.slot = some (d, md) → xs[j]? = some v → Rt K G F1 H v d md (A (env.length + te.length + j)) := fun {j a v d md} h1 h2 h3 => by
      have r := hA1 (env.length + te.length + j)
      have e1 : (env ++ (te ++ (frzA pm as).map Arg.slot))[env.length + te.length + j]? = some (some (d, md)) := by
        rw [assoc3, List.getElem?_append_right (by simp)]
        simp only [List.length_append, Nat.add_sub_cancel_left, List.getElem?_map, h1, Option.map_some, h2]
      have e2 : (σ ++ (tv ++ xs.map some))[env.length + te.length + j]? = some (some v) := by
        rw [assoc3, List.getElem?_append_right (by simp; omega)]
        have : env.length + te.length + j - (σ ++ tv).length = j := by simp; omega
        rw [this, List.getElem?_map, h3]; rfl
      rw [e1, e2] at r
      obtain ⟨v', e, r⟩ := r
      cases e; exact r
    have rootS : ∀ {i : Nat} {v : V} {d : D} {md : Md}, env[i]? = some (some (d, md)) → σ[i]? = some (some v) → Rt K G F1 H v d md (A i) := fun {i v d md} h1 h2 => by
      have hi := (List.getElem?_eq_some_iff.mp h1).1
      have r := hA1 i
      rw [List.getElem?_append_left hi, h1, List.getElem?_append_left (by omega), h2] at r
      obtain ⟨v', e, r⟩ := r
      cases e; exact r
    -- the parameters' roots
    have entry : ∀ {j : Nat} {p : PMd} {d : D} {v : V}, pm[j]? = some p → (ds ++ dvs)[j]? = some d → (xs ++ dw)[j]? = some v →
        (p = .l ∧ Dv K G1 v d) ∨ (p = .z ∧ Dv K F1 v d) ∨ ∃ k i, p = .m k ∧ as[j]? = some (.sl i) ∧ Ow K F1 H k v d (A i) := fun {j p d v} hp hd' hv => by
      by_cases hj : j < as.length
      · obtain ⟨a, ha⟩ : ∃ a, as[j]? = some a := ⟨as[j], by simp⟩
        rw [List.getElem?_append_left (by omega)] at hd' hv
        obtain ⟨d', e1, aa⟩ := dg j a p ha hp
        rw [hd'] at e1; cases e1
        cases p with
        | l =>
          refine .inl ⟨rfl, ?_⟩
          cases a with
          | dv d2 md =>
            have e : d2 = d := aa
            subst e
            have hfr : (frzA pm as)[j]? = some (.dv d2 md) := by
              rcases frzA_get (pm := pm) ha with h | ⟨_, _, _, h, _⟩
              · exact h
              · rw [hp] at h; cases h
            have r := rootA hfr rfl hv
            exact see (fun z => by have := slt _ z; omega) (nlk.imp id fun q => looks_get q.1 ha) r ⟨v, rfl, r⟩
          | ln i =>
            obtain ⟨md, e, hn⟩ := aa
            have r := rootS e (at' j i v (.inl ha) hv)
            exact see (nl i (mem_lns ha)) (.inr hn) r ⟨v, rfl, r⟩
          | sl i => exact aa.elim
        | z =>
          refine .inr (.inl ⟨rfl, ?_⟩)
          cases a with
          | dv d2 md =>
            obtain ⟨e, hc⟩ := aa
            subst e
            exact (rootA (frzA_z ha hp) rfl hv).1
          | ln i => exact aa.elim
          | sl i => exact aa.elim
        | m k =>
          refine .inr (.inr ?_)
          cases a with
          | dv d2 md => exact aa.elim
          | ln i => exact aa.elim
          | sl i =>
            obtain ⟨md, e⟩ := aa
            refine ⟨k, i, rfl, ha, ?_⟩
            have r := rootS e (at' j i v (.inr ha) hv)
            rcases slOk_get so j i k ha hp with ⟨d1, e'⟩ | ⟨d1, v0, e'⟩
            · rw [e] at e'; cases e'; exact r
            · rw [e] at e'; cases e'; exact r.2
      · have pl : p.plain = true := by
          refine List.all_eq_true.mp dpl p ?_
          have : (pm.drop as.length)[j - as.length]? = some p := by rw [List.getElem?_drop]; rw [← hp]; congr 1; omega
          exact List.mem_of_getElem? this
        rw [List.getElem?_append_right (by omega)] at hd' hv
        obtain ⟨v', e, dv⟩ := (hd F1).get hd'
        have ej : j - ds.length = j - xs.length := by omega
        rw [ej, hv] at e; cases e
        cases p with
        | l =>
          obtain ⟨v', e, dv'⟩ := (hd G1).get hd'
          rw [ej, hv] at e; cases e
          exact .inl ⟨rfl, dv'⟩
        | z => exact .inr (.inl ⟨rfl, dv⟩)
        | m k => cases pl
    have lx : (xs ++ dw).length = pm.length := by simp; omega
    have ld : (ds ++ dvs).length = pm.length := by simp; omega
    have SE : StD K G1 F1 F1 H ((xs ++ dw).map some) (entE pm (ds ++ dvs) (xs ++ dw)) := by
      refine ⟨g1, S1.fh, fun _ _ q => q, fun a o q => .inl q, S1.tu, fun j => match as[j]? with | some (.sl i) => (if j < pm.length then A i else []) | _ => [], fun j => ?_, fun j => ?_, fun j k a ha hb => ?_, fun j a ha => ?_⟩
      · cases q : (entE pm (ds ++ dvs) (xs ++ dw))[j]? with
        | none =>
          have : pm.length ≤ j := by rw [List.getElem?_eq_none_iff, entE_len ld lx] at q; exact q
          show (match as[j]? with | some (.sl i) => (if j < pm.length then A i else []) | _ => []) = []
          rw [List.getElem?_eq_none (by omega)]
        | some sl =>
          cases sl with
          | none =>
            exfalso
            have hj : j < pm.length := by
              have := (List.getElem?_eq_some_iff.mp q).1
              rw [entE_len ld lx] at this; exact this
            have := entE_some (pm := pm) (ds := ds ++ dvs) (vs := xs ++ dw) (j := j) (p := pm[j]) (d := (ds ++ dvs)[j]) (v := (xs ++ dw)[j]) (by simp) (by simp) (by simp)
            rw [q] at this; cases this
          | some dm =>
            obtain ⟨d, md⟩ := dm
            obtain ⟨p, v, hp, hd', hv, e⟩ := entE_get q
            subst e
            have hv' : ((xs ++ dw).map some)[j]? = some (some v) := by rw [List.getElem?_map, hv]; rfl
            rw [hv']
            refine ⟨v, rfl, ?_⟩
            have hj : j < pm.length := (List.getElem?_eq_some_iff.mp hp).1
            rcases entry hp hd' hv with ⟨rfl, dv⟩ | ⟨rfl, dv⟩ | ⟨k, i, rfl, ha, ow⟩
            · refine ⟨dv, ?_⟩
              dsimp only
              split
              · rename_i i ha
                obtain ⟨d', _, aa⟩ := dg j _ .l ha hp
                exact aa.elim
              · rfl
            · refine ⟨dv, ?_⟩
              dsimp only
              split
              · rename_i i ha
                obtain ⟨d', _, aa⟩ := dg j _ .z ha hp
                exact aa.elim
              · rfl
            · dsimp only
              rw [ha]
              dsimp only
              rw [if_pos hj]
              exact ⟨rfl, ow⟩
      · dsimp only
        split
        · split
          · exact hA2 _
          · exact List.nodup_nil
        · exact List.nodup_nil
      · dsimp only at ha hb
        split at ha
        · rename_i i h1
          split at ha
          · split at hb
            · rename_i i' h2
              split at hb
              · have e := hA3 i i' a ha hb
                subst e
                exact sl_inj nd h1 h2
              · exact absurd hb List.not_mem_nil
            · exact absurd hb List.not_mem_nil
          · exact absurd ha List.not_mem_nil
        · exact absurd ha List.not_mem_nil
      · dsimp only at ha
        split at ha
        · rename_i i h1
          split at ha
          · exact ⟨(hA4 i a ha).1, g2 a ⟨i, mem_sls.mpr ⟨j, h1⟩, ha⟩⟩
          · exact absurd ha List.not_mem_nil
        · exact absurd ha List.not_mem_nil
    refine ⟨G1, F1, ds ++ dvs, lx, ld, SE, mono _ _ _ (fun o q => ?_) hsp⟩
    cases o with
    | ret d md ms =>
      intro hg v F' H' S2
      refine kQ v d md F' H' _ q (by rw [putB_len]; exact l1) ?_
      exact call_exit (pm := pm) S1 hA1 hA2 hA3 hA4 l1 l2 ln at' hds nd so nv' lp (fun d' md' e => by cases e; exact hg) g1 g2 g3 S2
    | exc x ms =>
      intro cls dx F' H' S2 xr
      refine kE x _ cls dx F' H' q (by rw [putB_len]; exact l1) ?_ xr
      have S3 : StD K G1 F1 F' H' (none :: (xs ++ dw).map some) (none :: postE pm ms) := by
        refine S2.reix (fun j => j - 1) (fun j k hj hk e => ?_) fun j p e => ?_
        · obtain ⟨p, hp⟩ := hj
          obtain ⟨p', hp'⟩ := hk
          cases j <;> cases k <;> simp at hp hp' e ⊢
          exact e
        · cases j with
          | zero => simp at e
          | succ j => exact ⟨by simpa using e, by simp⟩
      exact (call_exit (pm := pm) S1 hA1 hA2 hA3 hA4 l1 l2 ln at' hds nd so nv' lp (fun d' md' e => by cases e) g1 g2 g3 S3).reix' (by rw [putB_len]; exact l1) l2
  · exact hk.elim
end

/-- a def of the text: where it stands, what it promises -/
structure DFun (P : Program) (w : World) (K : PySem.W.Frag) (mg : Str → Option Value) (base : Heap) (k : Nat) (x : Str) (pm : List PMd) (sp : DSp) (dvs : List D) : Prop where
  ex : ∃ (f : Addr) (fd : FuncData) (ps : List Str) (df : List Value) (dw : List V), mg x = some (.ref f) ∧ PySem.W.keepIn K (.ref f) = true ∧ FnOk P w K mg base (CX P w) k f fd ps (lift K pm sp) ∧ Binds K fd ps df ∧ Vals dw df ∧ ∀ Z, DvA K Z dw dvs
  mono : SpM sp
section
variable {X : Cx} {CX : CXT} {k : Nat} {f : Addr} {fd : FuncData} {ps : List Str} {sp : Sp} {E : L2.St → XK} {x m : Str} {p pos apos : Pos} {e o : Expr} {es : List Expr} {ta : TE} {t : TA} {dw : List V} {df : List Value}
theorem run_fnSD {pins : List (Addr × Obj)} {σ : L2.St} {H : Hp} {s : Shared} {Q : VK} {us : List Value} {vs : List V} (F : FnOk X.prog X.w X.K X.mg X.base CX k f fd ps sp) (hr : Room k X.A) (hb : Binds X.K fd ps df) (hd : Vals dw df) (hx : PassesAt CX X σ (E σ))
    (I : Inv X pins σ H s) (r : Vals vs us) (h : sp (vs ++ dw) H Q (E σ)) : wpAny (model X.prog X.w) X.A (call (.ref f) us) (EP X pins σ Q) X.xe s := by
  have r2 : Vals (vs ++ dw) (us ++ df) := r.append hd
  have hl : (us ++ df).length = ps.length := by rw [← r2.length]; exact F.len _ _ _ _ h
  refine wpAny_call (codeAny_mono (F.run X.A X.stack s H ⟨us, []⟩ (us ++ df) (vs ++ dw) Q (E σ) hr I.env0 (hb s us I.kIn hl) r2 h) fun r s' hq => ?_)
  cases r with
  | error e => exact hx pins H s e s' I hq
  | ok fl =>
    cases fl with
    | ret u => exact I.after hq
    | next => exact False.elim hq
    | brk => exact False.elim hq
    | cont => exact False.elim hq
theorem pe_callSD (F : FnOk X.prog X.w X.K X.mg X.base CX k f fd ps sp) (hr : Room k X.A) (hg : Gl X x) (hm : X.mg x = some (.ref f)) (hk : PySem.W.keepIn X.K (.ref f) = true) (hb : Binds X.K fd ps df) (hd : Vals dw df) (hx : ∀ σ, PassesAt CX X σ (E σ))
    (ha : PA X (e :: es) t) (hdb : (x == ("__debug__" : Str)) = false := by decide) (he : starEach (e :: es) X.env = (false, eval e X.env) :: starEach es X.env := by rfl) (hpl : (backTo pos (starEach es X.env)).any (·.1) = false := by rfl) :
    PE X (.Call (.Name x p) (e :: es) [] pos) (fun σ H Q => t σ H fun vs H1 => sp (vs ++ dw) H1 Q (E σ)) := by
  refine ⟨fun pins s σ H Q I h => ?_⟩
  refine wpAny_Call_Name_kw (ld_glob I hg hm ?_ hdb)
  refine PySem.W.callWith_K (h₀ := X.base) I.ok.mod.kin hk (thn (ha.run pos pins s σ H _ I h) fun us s1 ⟨vs, H1, I1, r, q⟩ => ⟨I1.kIn, ?_⟩) he hpl
  exact run_fnSD F hr hb hd (hx σ) I1 r q
theorem pe_callSD0 (F : FnOk X.prog X.w X.K X.mg X.base CX k f fd ps sp) (hr : Room k X.A) (hg : Gl X x) (hm : X.mg x = some (.ref f)) (hk : PySem.W.keepIn X.K (.ref f) = true) (hb : Binds X.K fd ps df) (hd : Vals dw df) (hx : ∀ σ, PassesAt CX X σ (E σ))
    (hdb : (x == ("__debug__" : Str)) = false := by decide) : PE X (.Call (.Name x p) [] [] pos) (fun σ H Q => sp dw H Q (E σ)) := by
  refine ⟨fun pins s σ H Q I h => ?_⟩
  refine wpAny_Call_Name_kw (ld_glob I hg hm ?_ hdb)
  exact PySem.W.callWith_K0 I.kIn hk (run_fnSD (us := []) (vs := []) F hr hb hd (hx σ) I .nil h)
end
theorem sls_plain : ∀ {pm : List PMd} {as : List Arg} {e : Env} {ds : List D}, pm.all PMd.plain = true → argsD pm as e = some ds → sls as = []
  | pm, as, e, ds, h1, h2 => by
    cases q : sls as with
    | nil => rfl
    | cons i t =>
      obtain ⟨j, hj⟩ := mem_sls.mp (show i ∈ sls as by rw [q]; exact List.mem_cons_self)
      exfalso
      obtain ⟨dl, dg⟩ := argsD_get h2
      have : ∀ {pm : List PMd} {as : List Arg} {ds : List D} {j : Nat}, argsD pm as e = some ds → j < as.length → j < pm.length := by
        intro pm
        induction pm with
        | nil => intro as ds j h hj; cases as with
          | nil => simp at hj
          | cons a as => cases a <;> simp [argsD] at h
        | cons p ps ih =>
          intro as ds j h hj
          cases as with
          | nil => simp at hj
          | cons a as =>
            cases j with
            | zero => simp
            | succ j =>
              have hj' : j < as.length := by simpa using hj
              have : j < ps.length := by
                cases p <;> cases a <;> simp only [argsD] at h <;> try (cases h; done)
                · rw [Option.map_eq_some_iff] at h; obtain ⟨_, h, _⟩ := h; exact ih h hj'
                · split at h
                  · split at h
                    · rw [Option.map_eq_some_iff] at h; obtain ⟨_, h, _⟩ := h; exact ih h hj'
                    · cases h
                  · cases h
                · split at h
                  · rw [Option.map_eq_some_iff] at h; obtain ⟨_, h, _⟩ := h; exact ih h hj'
                  · cases h
                · split at h
                  · rw [Option.map_eq_some_iff] at h; obtain ⟨_, h, _⟩ := h; exact ih h hj'
                  · cases h
              simpa using this
      have lt := this h2 (List.getElem?_eq_some_iff.mp hj).1
      obtain ⟨d, _, aa⟩ := dg j _ pm[j] hj (by simp)
      have pl := List.all_eq_true.mp h1 pm[j] (by simp)
      cases e' : pm[j] with
      | l => rw [e'] at aa; exact aa.elim
      | z => rw [e'] at aa; exact aa.elim
      | m k => rw [e'] at pl; cases pl
section
variable {X : Cx} {W : WX} {p : Bool}
theorem call_tD {k : Nat} {pm : List PMd} {dvs : List D} {sp : DSp} {m : DU} {dw : List V} (mono : SpM sp) (hd : ∀ Z, DvA X.K Z dw dvs) (hp : p = true → pm.all PMd.plain = true) {σ : L2.St} {H : Hp} {Q : VK} (h : tD X.K W p (dCall pm dvs sp m) σ H Q) :
    tDU X.K W p m σ H fun vs H1 => lift X.K pm sp (vs ++ dw) H1 Q (WE W σ) := by
  obtain ⟨G, F0, F1, env, tv, te, R, Ex, S, l1, l2, nv, wo, hm', hk⟩ := h
  refine ⟨G, F0, F1, env, tv, te, _, Ex, S, l1, l2, nv, wo, hm', fun xs as F2 H2 env2 q l3 ln at' S2 => ?_⟩
  refine call_core mono S2 l3 l2 ln at' ?_ q hd hk fun x env' cls dx F' H' ex le S' xr => wo.use ex le S' xr
  rcases nv with h | h
  · refine .inl ?_
    unfold callK at q
    split at q
    · rename_i ds hds
      exact sls_plain (hp h) hds
    · exact q.elim
  · exact .inr h
theorem pd_call {x : Str} {q pos : Pos} {e : Expr} {es : List Expr} {k : Nat} {pm : List PMd} {dvs : List D} {sp : DSp} {m : DU} (tk : Takes X W) (D : DFun X.prog X.w X.K X.mg X.base k x pm sp dvs) (hr : Room k X.A) (hg : Gl X x)
    (ha : PDU X W p (e :: es) m) (hp : p = true → pm.all PMd.plain = true := by intro h; first | rfl | cases h) (hdb : (x == ("__debug__" : Str)) = false := by decide) (he : starEach (e :: es) X.env = (false, eval e X.env) :: starEach es X.env := by rfl) (hpl : (backTo pos (starEach es X.env)).any (·.1) = false := by rfl) :
    PD X W p (.Call (.Name x q) (e :: es) [] pos) (dCall pm dvs sp m) := by
  obtain ⟨f, fd, ps, df, dw, hm, hkp, F, hb, hv, hd⟩ := D.ex
  exact PE.imp (pe_callSD (E := WE W) F hr hg hm hkp hb hv (passAt tk) ha hdb he hpl) fun σ H Q h => call_tD (k := k) D.mono hd hp h
theorem pd_call0 {x : Str} {q pos : Pos} {k : Nat} {pm : List PMd} {dvs : List D} {sp : DSp} (tk : Takes X W) (D : DFun X.prog X.w X.K X.mg X.base k x pm sp dvs) (hr : Room k X.A) (hg : Gl X x)
    (hp : pm.all PMd.plain = true := by rfl) (hdb : (x == ("__debug__" : Str)) = false := by decide) :
    PD X W true (.Call (.Name x q) [] [] pos) (dCall pm dvs sp uNil) := by
  obtain ⟨f, fd, ps, df, dw, hm, hkp, F, hb, hv, hd⟩ := D.ex
  refine PE.imp (pe_callSD0 (E := WE W) F hr hg hm hkp hb hv (passAt tk) hdb) fun σ H Q h => ?_
  have q := call_tD (k := k) (p := true) D.mono hd (fun _ => hp) h
  obtain ⟨G, F0, F1, env, tv, te, R, Ex, S, l1, l2, nv, wo, hm', hk⟩ := q
  exact hk [] [] F1 H env hm' l1 rfl (fun j i v h => by simp at h) (by simpa using S)
end
end DL
/-! D layer, part 7: statements, targets. -/
namespace DL
open PySem PySem.Spec PyProof.Rows L2

structure DEnds where
  nx : Env → Prop
  rt : D → Md → Env → Prop
  bk : Env → Prop := fun _ => False
  ct : Env → Prop := fun _ => False
  ex : DX := fun _ _ => False
abbrev DS := Env → DEnds → Prop
def tDS (K : PySem.W.Frag) (W : WX) (m : DS) : TS := fun Z σ H => ∃ (G F0 F : Hp) (env : Env) (tv : List (Option V)) (te : Env) (E : DEnds),
  StD K G F0 F H (σ ++ tv) (env ++ te) ∧ env.length = σ.length ∧ tv.length = te.length ∧ NoView te ∧ WOk K W G F0 tv te E.ex ∧ m env E ∧
  (∀ (σ' : L2.St) (F' H' : Hp) (env' : Env), E.nx env' → env'.length = σ'.length → σ'.length = σ.length → StD K G F0 F' H' (σ' ++ tv) (env' ++ te) → Z.nx σ' H') ∧
  (∀ (v : V) (d : D) (md : Md) (σ' : L2.St) (F' H' : Hp) (env' : Env), E.rt d md env' → md.given = true → env'.length = σ'.length → σ'.length = σ.length → StD K G F0 F' H' (σ' ++ (tv ++ [some v])) (env' ++ (te ++ [some (d, md)])) → Z.rt v H') ∧
  (∀ (σ' : L2.St) (F' H' : Hp) (env' : Env), E.bk env' → env'.length = σ'.length → σ'.length = σ.length → StD K G F0 F' H' (σ' ++ tv) (env' ++ te) → Z.bk σ' H') ∧
  (∀ (σ' : L2.St) (F' H' : Hp) (env' : Env), E.ct env' → env'.length = σ'.length → σ'.length = σ.length → StD K G F0 F' H' (σ' ++ tv) (env' ++ te) → Z.ct σ' H')
def PDS (X : Cx) (W : WX) (st : Stmt) (m : DS) : Prop := PS X st (tDS X.K W m)
def PDSs (X : Cx) (W : WX) (sts : List Stmt) (m : DS) : Prop := PSs X sts (tDS X.K W m)
theorem PS.imp {X : Cx} {st : Stmt} {t t' : TS} (h : PS X st t) (k : ∀ D σ H, t' D σ H → t D σ H) : PS X st t' := ⟨fun pins s σ H D I q => h.run pins s σ H D I (k D σ H q)⟩
theorem PSs.imp {X : Cx} {st : List Stmt} {t t' : TS} (h : PSs X st t) (k : ∀ D σ H, t' D σ H → t D σ H) : PSs X st t' := ⟨fun pins s σ H D I q => h.run pins s σ H D I (k D σ H q)⟩

/-- how a thing may be held by a name; handed back -/
@[simp ↓] def keepMd (d : D) (md : Md) : Option Md := if flat d = true then some .frz else match md with
  | .frz => some .frz
  | .lent => some .lent
  | .own m => some (.own m)
  | _ => none
@[simp ↓] def giveMd (d : D) (md : Md) : Option Md := if flat d = true then some .frz else match md with
  | .frz => some .frz
  | .own m => some (.own m)
  | _ => none
theorem keep_noview {d : D} {md md' : Md} (h : keepMd d md = some md') : md'.noview = true := by
  unfold keepMd at h
  split at h
  · cases h; rfl
  · split at h <;> first | (cases h; rfl) | cases h
theorem give_given {d : D} {md md' : Md} (h : giveMd d md = some md') : md'.given = true := by
  unfold giveMd at h
  split at h
  · cases h; rfl
  · split at h <;> first | (cases h; rfl) | cases h
section
variable {K : PySem.W.Frag} {G F0 F H : Hp} {σ : L2.St} {env te : Env} {tv : List (Option V)} {v : V} {d : D} {md md' : Md}
theorem StD.lastFlat (S : StD K G F0 F H (σ ++ (tv ++ [some v])) (env ++ (te ++ [some (d, md)]))) (l1 : env.length = σ.length) (l2 : tv.length = te.length) (hf : flat d = true) : ∃ F', StD K G F0 F' H (σ ++ (tv ++ [some v])) (env ++ (te ++ [some (d, .frz)])) := by
  have hc : capB d md = true := by unfold capB; split <;> first | rfl | exact hf
  have S' : StD K G F0 F H ((σ ++ tv) ++ [some v]) ((env ++ te) ++ [some (d, md)]) := by simpa [List.append_assoc] using S
  obtain ⟨F', _, S1, _⟩ := S'.cap (i := (env ++ te).length) (by simp) hc
  rw [List.set_append_right _ _ (Nat.le_refl _)] at S1
  exact ⟨F', by simpa [List.append_assoc] using S1⟩
theorem StD.lastKeep (S : StD K G F0 F H (σ ++ (tv ++ [some v])) (env ++ (te ++ [some (d, md)]))) (l1 : env.length = σ.length) (l2 : tv.length = te.length) (h : keepMd d md = some md') : ∃ F', StD K G F0 F' H (σ ++ (tv ++ [some v])) (env ++ (te ++ [some (d, md')])) := by
  unfold keepMd at h
  split at h
  · rename_i hf; cases h; exact S.lastFlat l1 l2 hf
  · split at h <;> first | (cases h; exact ⟨F, S⟩) | cases h
theorem StD.lastGive (S : StD K G F0 F H (σ ++ (tv ++ [some v])) (env ++ (te ++ [some (d, md)]))) (l1 : env.length = σ.length) (l2 : tv.length = te.length) (h : giveMd d md = some md') : ∃ F', StD K G F0 F' H (σ ++ (tv ++ [some v])) (env ++ (te ++ [some (d, md')])) := by
  unfold giveMd at h
  split at h
  · rename_i hf; cases h; exact S.lastFlat l1 l2 hf
  · split at h <;> first | (cases h; exact ⟨F, S⟩) | cases h
/-- the last root goes into slot i -/
theorem StD.store {i : Nat} (S : StD K G F0 F H (σ ++ (tv ++ [some v])) (env ++ (te ++ [some (d, md)]))) (l1 : env.length = σ.length) (l2 : tv.length = te.length) (hi : i < env.length) : StD K G F0 F H (σ.set i (some v) ++ tv) (env.set i (some (d, md)) ++ te) := by
  refine S.reix (fun j => if j = i then env.length + te.length else j) (fun j k hj hk e => ?_) fun j p e => ?_
  · obtain ⟨p, hp⟩ := hj
    obtain ⟨p', hp'⟩ := hk
    have b1 := (List.getElem?_eq_some_iff.mp hp).1
    have b2 := (List.getElem?_eq_some_iff.mp hp').1
    simp at b1 b2
    split at e <;> split at e <;> omega
  · have b1 := (List.getElem?_eq_some_iff.mp e).1
    simp at b1
    by_cases hj : j = i
    · subst hj
      rw [List.getElem?_append_left (by simpa using hi), List.getElem?_set_self hi] at e
      cases e
      rw [if_pos rfl, get_snoc rfl, get_snoc (by omega), List.getElem?_append_left (by simp; omega), List.getElem?_set_self (by omega)]
      exact ⟨rfl, rfl⟩
    · rw [if_neg hj]
      by_cases lj : j < env.length
      · rw [List.getElem?_append_left (by simpa using lj), List.getElem?_set_ne (Ne.symm hj)] at e
        refine ⟨get_left e, ?_⟩
        rw [List.getElem?_append_left (by simp; omega), List.getElem?_set_ne (Ne.symm hj), List.getElem?_append_left (by omega)]
      · rw [List.getElem?_append_right (by simp; omega)] at e
        simp only [List.length_set] at e
        refine ⟨?_, ?_⟩
        · rw [List.getElem?_append_right (by omega), List.getElem?_append_left (by omega)]; exact e
        · rw [List.getElem?_append_right (by simp; omega), List.getElem?_append_right (by omega), List.getElem?_append_left (by omega)]
          simp
end
def notBrw (e : Env) (i : Nat) : Prop := match e[i]? with
  | some (some (_, .brw _ _)) => False
  | some _ => True
  | none => False

section
variable {X : Cx} {W : WX} {p p1 p2 : Bool} {e : Expr} {pos : Pos} {ma : DE} {st : Stmt} {rest : List Stmt} {m u : DS} {mt : DT}
theorem pds_of {t : TS} (h : PS X st t)
    (k : ∀ (G F0 F H : Hp) (σ : L2.St) (env : Env) (tv : List (Option V)) (te : Env) (E : DEnds) (D : Ends), StD X.K G F0 F H (σ ++ tv) (env ++ te) → env.length = σ.length → tv.length = te.length → NoView te → WOk X.K W G F0 tv te E.ex → m env E →
      (∀ (σ' : L2.St) (F' H' : Hp) (env' : Env), E.nx env' → env'.length = σ'.length → σ'.length = σ.length → StD X.K G F0 F' H' (σ' ++ tv) (env' ++ te) → D.nx σ' H') →
      (∀ (v : V) (d : DL.D) (md : Md) (σ' : L2.St) (F' H' : Hp) (env' : Env), E.rt d md env' → md.given = true → env'.length = σ'.length → σ'.length = σ.length → StD X.K G F0 F' H' (σ' ++ (tv ++ [some v])) (env' ++ (te ++ [some (d, md)])) → D.rt v H') →
      (∀ (σ' : L2.St) (F' H' : Hp) (env' : Env), E.bk env' → env'.length = σ'.length → σ'.length = σ.length → StD X.K G F0 F' H' (σ' ++ tv) (env' ++ te) → D.bk σ' H') →
      (∀ (σ' : L2.St) (F' H' : Hp) (env' : Env), E.ct env' → env'.length = σ'.length → σ'.length = σ.length → StD X.K G F0 F' H' (σ' ++ tv) (env' ++ te) → D.ct σ' H') → t D σ H) : PDS X W st m :=
  PS.imp h fun D σ H ⟨G, F0, F, env, tv, te, E, S, l1, l2, nv, wo, hm, k1, k2, k3, k4⟩ => k G F0 F H σ env tv te E D S l1 l2 nv wo hm k1 k2 k3 k4
@[simp ↓] def dNext : DS := fun env E => E.nx env
@[simp ↓] def dSeq (m u : DS) : DS := fun env E => m env { E with nx := fun e => u e E }
theorem pds_nil : PDSs X W [] dNext := PSs.imp pss_nil fun D σ H ⟨G, F0, F, env, tv, te, E, S, l1, l2, nv, wo, hm, k1, k2, k3, k4⟩ => k1 σ F H env hm l1 rfl S
theorem pds_cons (h1 : PDS X W st m) (h2 : PDSs X W rest u) : PDSs X W (st :: rest) (dSeq m u) :=
  PSs.imp (pss_cons h1 h2) fun D σ H ⟨G, F0, F, env, tv, te, E, S, l1, l2, nv, wo, hm, k1, k2, k3, k4⟩ =>
    ⟨G, F0, F, env, tv, te, { E with nx := fun e => u e E }, S, l1, l2, nv, wo, hm, fun σ' F' H' env' q l3 l4 S' =>
      ⟨G, F0, F', env', tv, te, E, S', l3, l2, nv, wo, q, fun σ2 F2 H2 e2 q2 l5 l6 => k1 σ2 F2 H2 e2 q2 l5 (l6.trans l4), fun v d md σ2 F2 H2 e2 q2 g l5 l6 => k2 v d md σ2 F2 H2 e2 q2 g l5 (l6.trans l4),
        fun σ2 F2 H2 e2 q2 l5 l6 => k3 σ2 F2 H2 e2 q2 l5 (l6.trans l4), fun σ2 F2 H2 e2 q2 l5 l6 => k4 σ2 F2 H2 e2 q2 l5 (l6.trans l4)⟩, k2, k3, k4⟩
theorem pds_one (h1 : PDS X W st m) : PDSs X W [st] m := pss_one h1
theorem pds_pass : PDS X W (.Pass pos) dNext := pds_of ps_pass fun G F0 F H σ env tv te E D S l1 l2 nv wo hm k1 k2 k3 k4 => k1 σ F H env hm l1 rfl S
theorem pds_brk : PDS X W (.Break pos) (fun env E => E.bk env) := pds_of ps_break fun G F0 F H σ env tv te E D S l1 l2 nv wo hm k1 k2 k3 k4 => k3 σ F H env hm l1 rfl S
theorem pds_cont : PDS X W (.Continue pos) (fun env E => E.ct env) := pds_of ps_continue fun G F0 F H σ env tv te E D S l1 l2 nv wo hm k1 k2 k3 k4 => k4 σ F H env hm l1 rfl S
@[simp ↓] def dDrop (ma : DE) : DS := fun env E => ma env (fun _ _ e => E.nx e) E.ex
theorem pds_expr (he : PD X W p e ma) (hs : swapsWith e none pos.line X.env = pure false := by rfl) : PDS X W (.Expr e pos) (dDrop ma) :=
  pds_of (ps_expr he hs) fun G F0 F H σ env tv te E D S l1 l2 nv wo hm k1 k2 k3 k4 => ⟨G, F0, F, env, tv, te, _, E.ex, S, l1, l2, .inr nv, wo, hm, fun v d md F1 H1 env1 q l3 S1 => k1 σ F1 H1 env1 q l3 rfl (S1.reix' l3 l2)⟩
@[simp ↓] def dRet (ma : DE) : DS := fun env E => ma env (fun d md e => match giveMd d md with
  | some md' => E.rt d md' e
  | none => False) E.ex
theorem pds_ret (he : PD X W p e ma) : PDS X W (.Return (some e) pos) (dRet ma) :=
  pds_of (ps_ret he) fun G F0 F H σ env tv te E D S l1 l2 nv wo hm k1 k2 k3 k4 => ⟨G, F0, F, env, tv, te, _, E.ex, S, l1, l2, .inr nv, wo, hm, fun v d md F1 H1 env1 q l3 S1 => by
    split at q
    · rename_i md' hg
      obtain ⟨F2, S2⟩ := S1.lastGive l3 l2 hg
      exact k2 v d md' σ F2 H1 env1 q (give_given hg) l3 rfl S2
    · exact q.elim⟩
@[simp ↓] def dRetN : DS := fun env E => E.rt .non .frz env
theorem pds_retN : PDS X W (.Return none pos) dRetN :=
  pds_of ps_retN fun G F0 F H σ env tv te E D S l1 l2 nv wo hm k1 k2 k3 k4 => k2 .non .non .frz σ F H env hm rfl l1 rfl (pushF2 S l1 l2 .non)
@[simp ↓] def dIfS (mt : DT) (m u : DS) : DS := fun env E => mt env (fun b e => if b = true then m e E else u e E) E.ex
theorem pds_if {c : Expr} {a b : List Stmt} (hc : PDT X W p c mt) (ha : PDSs X W a m) (hb : PDSs X W b u) : PDS X W (.If c a b pos) (dIfS mt m u) :=
  pds_of (ps_if hc ha hb) fun G F0 F H σ env tv te E D S l1 l2 nv wo hm k1 k2 k3 k4 => ⟨G, F0, F, env, tv, te, _, E.ex, S, l1, l2, .inr nv, wo, hm, fun k F1 H1 env1 q l3 S1 => by
    cases k with
    | true => exact ⟨G, F0, F1, env1, tv, te, E, S1, l3, l2, nv, wo, q, k1, k2, k3, k4⟩
    | false => exact ⟨G, F0, F1, env1, tv, te, E, S1, l3, l2, nv, wo, q, k1, k2, k3, k4⟩⟩

/-! ### targets -/
abbrev DG := D → Md → Env → (Env → Prop) → DX → Prop
def tDG (K : PySem.W.Frag) (W : WX) (ws : List Nat) (m : DG) : TG := fun v σ H Q => ∃ (G F0 F : Hp) (env : Env) (tv : List (Option V)) (te : Env) (d : D) (md : Md) (R : Env → Prop) (Ex : DX),
  StD K G F0 F H (σ ++ (tv ++ [some v])) (env ++ (te ++ [some (d, md)])) ∧ env.length = σ.length ∧ tv.length = te.length ∧ NoView te ∧ WOk K W G F0 tv te Ex ∧ m d md env R Ex ∧
  ∀ (σ' : L2.St) (F' H' : Hp) (env' : Env), R env' → env'.length = σ'.length → σ'.length = σ.length → (∀ j, j ∉ ws → σ'[j]? = σ[j]?) → StD K G F0 F' H' (σ' ++ tv) (env' ++ te) → Q σ' H'
/-- ws: the slots that the target stores -/
def PDG (X : Cx) (W : WX) (ws : List Nat) (tg : Expr) (m : DG) : Prop := PG X tg (tDG X.K W ws m)
theorem PG.imp {X : Cx} {tg : Expr} {t t' : TG} (h : PG X tg t) (k : ∀ v σ H Q, t' v σ H Q → t v σ H Q) : PG X tg t' := ⟨fun pins s σ H v u Q I r q => h.run pins s σ H v u Q I r (k v σ H Q q)⟩
def dgName (i : Nat) : DG := fun d md env R _ => notBrw env i ∧ match keepMd d md with
  | some md' => R (env.set i (some (d, md')))
  | none => False
theorem notBrw_lt {e : Env} {i : Nat} (h : notBrw e i) : i < e.length := by
  unfold notBrw at h
  split at h
  · exact h.elim
  · rename_i q; exact (List.getElem?_eq_some_iff.mp q).1
  · exact h.elim
theorem gName_D {i : Nat} {v : V} {σ : L2.St} {H : Hp} {Q : L2.St → Hp → Prop} (h : tDG X.K W [i] (dgName i) v σ H Q) : gName i v σ H Q := by
  obtain ⟨G, F0, F, env, tv, te, d, md, R, Ex, S, l1, l2, nv, wo, ⟨nb, hm⟩, hk⟩ := h
  split at hm
  · rename_i md' hkp
    obtain ⟨F1, S1⟩ := S.lastKeep l1 l2 hkp
    exact hk _ F1 H _ hm (by simp [l1]) (by simp) (fun j hj => List.getElem?_set_ne fun z => hj (by simp [z])) (S1.store l1 l2 (notBrw_lt nb))
  · exact hm.elim
theorem pdg_name {i : Nat} {x : Str} (hN : X.N.Nodup) (hi : X.N[i]? = some x) (hx : Loc X.env.scope x) (hf : X.fn x = true ∨ X.env.scope.names.lookup x = some .local := by first | exact .inl rfl | exact .inr rfl | assumption) : PDG X W [i] (.Name x pos) (dgName i) :=
  PG.imp (pg_name hN hi hx hf) fun _ _ _ _ h => gName_D h
@[simp ↓] def dAsg (ma : DE) (g : DG) : DS := fun env E => ma env (fun d md e => g d md e E.nx E.ex) E.ex
theorem pds_asg {tg : Expr} {g : DG} {ws : List Nat} (he : PD X W p e ma) (hg : PDG X W ws tg g) (hs : swapsWithSole [tg] e pos.line X.env = pure false := by rfl) (hw : swappedStores [tg] e X.env = pure none := by rfl)
    (h1 : (assignEach [tg] X.env).map (·.2) = [assign tg X.env] := by rfl) : PDS X W (.Assign [tg] e pos) (dAsg ma g) :=
  pds_of (ps_asg he hg hs hw h1) fun G F0 F H σ env tv te E D S l1 l2 nv wo hm k1 k2 k3 k4 => ⟨G, F0, F, env, tv, te, _, E.ex, S, l1, l2, .inr nv, wo, hm, fun v d md F1 H1 env1 q l3 S1 =>
    ⟨G, F0, F1, env1, tv, te, d, md, E.nx, E.ex, S1, l3, l2, nv, wo, q, fun σ' F' H' env' q' l4 l5 _ => k1 σ' F' H' env' q' l4 l5⟩⟩
theorem pds_set {i : Nat} {x : Str} {pos' : Pos} (hN : X.N.Nodup) (hi : X.N[i]? = some x) (hx : Loc X.env.scope x) (he : PD X W p e ma) (hs : swapsWith e (some (.Name x pos')) pos.line X.env = pure false := by rfl)
    (hf : X.fn x = true ∨ X.env.scope.names.lookup x = some .local := by first | exact .inl rfl | exact .inr rfl | assumption) : PDS X W (.Assign [.Name x pos'] e pos) (dAsg ma (dgName i)) :=
  pds_of (ps_set hN hi hx he hs hf) fun G F0 F H σ env tv te E D S l1 l2 nv wo hm k1 k2 k3 k4 => ⟨G, F0, F, env, tv, te, _, E.ex, S, l1, l2, .inr nv, wo, hm, fun v d md F1 H1 env1 q l3 S1 =>
    gName_D (X := X) (W := W) ⟨G, F0, F1, env1, tv, te, d, md, E.nx, E.ex, S1, l3, l2, nv, wo, q, fun σ' F' H' env' q' l4 l5 _ => k1 σ' F' H' env' q' l4 l5⟩⟩
end
end DL
/-! D layer, part 8: what is changed; loops, comprehensions. -/
namespace DL
open PySem PySem.Spec PyProof.Rows L2

section
variable {K : PySem.W.Frag} {G F0 F H H' : Hp} {vs : List (Option V)} {es : Env}
theorem owL_f : ∀ {xs : List V} {ds : List D} {as : List Addr}, OwL K F H (ds.map fun _ => Mask.f) xs ds as → as = [] ∧ DvA K F xs ds
  | [], [], _, .nil => ⟨rfl, .nil⟩
  | _ :: _, _ :: ds, _, .cons h t => by
    cases h with
    | fz q =>
      obtain ⟨e, h2⟩ := owL_f t
      exact ⟨by simp [e], .cons q h2⟩
/-- what one root owns is changed -/
theorem StD.mut {k : Nat} {d d' : D} {md : Md} {m : Mask} {a : Addr} {o' : HO} (S : StD K G F0 F H vs es) (nv : ∀ (j : Nat) (dj : D) (mj : Md), es[j]? = some (some (dj, mj)) → mj.noview = true) (e : es[k]? = some (some (d, md))) (hmd : md = .own m ∨ ∃ v0, md = .brw m v0)
    (no : ∀ xs, o' ≠ .tup xs ∧ ∀ z, o' ≠ .frz z (.tup xs))
    (step : ∀ (v : V) (as : List Addr), vs[k]? = some (some v) → Ow K F H m v d as → as.Nodup → a ∈ as ∧ ∃ as', Ow K F (upd H a o') m v d' as' ∧ as'.Nodup ∧ ∀ b ∈ as', b ∈ as) : StD K G F0 F (upd H a o') vs (es.set k (some (d', md))) := by
  obtain ⟨A, h1, h2, h3, h4⟩ := S.rts
  have hk : k < es.length := (List.getElem?_eq_some_iff.mp e).1
  have r := h1 k
  rw [e] at r
  obtain ⟨v, hv, r⟩ := r
  have ow : Ow K F H m v d (A k) := by
    rcases hmd with rfl | ⟨v0, rfl⟩
    · exact r
    · exact r.2
  obtain ⟨ha, as', ow', nd', sub⟩ := step v (A k) hv ow (h2 k)
  have keepG : Same G (upd H a o') := fun b o q => by
    have : b ≠ a := fun z => by subst z; rw [(h4 k b ha).2] at q; cases q
    rw [upd_ne this]; exact S.gh _ _ q
  have keepF : Same F (upd H a o') := fun b o q => by
    have : b ≠ a := fun z => by subst z; rw [(h4 k b ha).1] at q; cases q
    rw [upd_ne this]; exact S.fh _ _ q
  refine ⟨keepG, keepF, S.f0, S.fg, fun b xs q => ?_, fun j => if j = k then as' else A j, fun j => ?_, fun j => ?_, fun i j b hi hj => ?_, fun j b hb => ?_⟩
  · rcases rd_upd q with ⟨_, q | ⟨z, q⟩⟩ | ⟨_, q⟩
    · exact absurd q (no xs).1
    · exact absurd q ((no xs).2 z)
    · exact S.tu b xs q
  · dsimp only
    by_cases hj : j = k
    · subst hj
      rw [if_pos rfl, List.getElem?_set_self hk]
      refine ⟨v, hv, ?_⟩
      rcases hmd with rfl | ⟨v0, rfl⟩
      · exact ow'
      · exact ⟨r.1, ow'⟩
    · rw [if_neg hj, List.getElem?_set_ne (Ne.symm hj)]
      refine (h1 j).imp fun v1 d1 md1 q rr => rr.keep (fun _ _ q => q) (nv j d1 md1 q) fun b o hb q => ?_
      have : b ≠ a := fun z => by subst z; exact hj (h3 j k b hb ha)
      rw [upd_ne this]; exact q
  · dsimp only
    split
    · exact nd'
    · exact h2 j
  · dsimp only at hi hj
    split at hi
    · split at hj
      · omega
      · rename_i e1 e2; exact absurd (h3 j k b hj (sub b hi)) e2
    · split at hj
      · rename_i e1 e2; exact absurd (h3 i k b hi (sub b hj)) e1
      · exact h3 i j b hi hj
  · dsimp only at hb
    split at hb
    · exact h4 k b (sub b hb)
    · exact h4 j b hb
/-- a list of things that nobody changes: another list in its place -/
theorem StD.mutL {k : Nat} {ds ds' : List D} {md : Md} {a : Addr} {xs xs' : List V} (S : StD K G F0 F H vs es) (nv : ∀ (j : Nat) (dj : D) (mj : Md), es[j]? = some (some (dj, mj)) → mj.noview = true) (e : es[k]? = some (some (.lst ds, md))) (hmd : md = .own (.o .f) ∨ ∃ v0, md = .brw (.o .f) v0)
    (hv : vs[k]? = some (some (.ref a))) (hH : H a = some (.lst xs)) (dv : DvA K F xs' ds') : StD K G F0 F (upd H a (.lst xs')) vs (es.set k (some (.lst ds', md))) := by
  refine S.mut nv e hmd (fun _ => ⟨fun q => (nomatch q), fun _ q => (nomatch q)⟩) fun v as hv' ow nd => ?_
  rw [hv] at hv'; cases hv'
  cases ow with
  | lst h t =>
    obtain ⟨e1, _⟩ := owL_f t
    subst e1
    exact ⟨List.mem_cons_self, [a], .lst upd_same (OwL.of_dv dv), by simp, fun b hb => hb⟩
/-- the last root but one is dropped -/
theorem StD.dropMid {σ : L2.St} {env te : Env} {tv : List (Option V)} {x y : Option V} {ex ey : Slot} (S : StD K G F0 F H (σ ++ (tv ++ [x] ++ [y])) (env ++ (te ++ [ex] ++ [ey]))) (l1 : env.length = σ.length) (l2 : tv.length = te.length) :
    StD K G F0 F H (σ ++ (tv ++ [y])) (env ++ (te ++ [ey])) := by
  refine S.reix (fun j => if j = env.length + te.length then j + 1 else j) (fun j k hj hk e => ?_) fun j p e => ?_
  · obtain ⟨p, hp⟩ := hj
    obtain ⟨p', hp'⟩ := hk
    have b1 := (List.getElem?_eq_some_iff.mp hp).1
    have b2 := (List.getElem?_eq_some_iff.mp hp').1
    simp at b1 b2
    split at e <;> split at e <;> omega
  · have b1 := (List.getElem?_eq_some_iff.mp e).1
    simp at b1
    by_cases hj : j = env.length + te.length
    · subst hj
      rw [if_pos rfl]
      rw [get_snoc rfl] at e
      cases e
      have q1 : (env ++ (te ++ [ex] ++ [some p]))[env.length + te.length + 1]? = some (some p) := by
        rw [get_snoc (by simp; omega)]
      refine ⟨q1, ?_⟩
      rw [get_snoc (by omega), get_snoc (by simp; omega)]
    · rw [if_neg hj]
      have e1 : (env ++ (te ++ [ey]))[j]? = (env ++ te)[j]? := by rw [assoc3, List.getElem?_append_left (by simp; omega)]
      have e2 : (env ++ (te ++ [ex] ++ [ey]))[j]? = (env ++ te)[j]? := by rw [List.append_assoc te, assoc3, List.getElem?_append_left (by simp; omega)]
      rw [e2, ← e1]
      refine ⟨e, ?_⟩
      have e3 : (σ ++ (tv ++ [y]))[j]? = (σ ++ tv)[j]? := by rw [assoc3]; exact List.getElem?_append_left (by simp; omega)
      have e4 : (σ ++ (tv ++ [x] ++ [y]))[j]? = (σ ++ tv)[j]? := by rw [List.append_assoc tv, assoc3]; exact List.getElem?_append_left (by simp; omega)
      rw [e3, e4]
end

/-! ### what is walked -/
/-- in each later state that still has the root (v0, d0, md0), the walk yields ds -/
def ItOk (K : PySem.W.Frag) (G F0 : Hp) (J : It) (v0 : V) (d0 : D) (md0 : Md) (ds : List (D × Md)) : Prop :=
  ∀ (F H : Hp) (vs : List (Option V)) (es : Env) (k : Nat), StD K G F0 F H vs es → vs[k]? = some (some v0) → es[k]? = some (some (d0, md0)) →
    ∀ i, (i < ds.length → J.go i H ∧ ∀ x H', J.yld i H x H' → H' = H ∧ ∀ d md, ds[i]? = some (d, md) → Rt K G F H x d md []) ∧ (ds.length ≤ i → J.stop i H)
abbrev DI := Env → (List (D × Md) → Env → Prop) → DX → Prop
def tDI (K : PySem.W.Frag) (W : WX) (m : DI) : TI := fun σ H R => ∃ (G F0 F : Hp) (env : Env) (tv : List (Option V)) (te : Env) (Rk : List (D × Md) → Env → Prop) (Ex : DX),
  StD K G F0 F H (σ ++ tv) (env ++ te) ∧ env.length = σ.length ∧ tv.length = te.length ∧ NoView te ∧ WOk K W G F0 tv te Ex ∧ m env Rk Ex ∧
  ∀ (J : It) (v0 : V) (d0 : D) (md0 : Md) (ds : List (D × Md)) (F' H' : Hp) (env' : Env), Rk ds env' → env'.length = σ.length → md0.noview = true → StD K G F0 F' H' (σ ++ (tv ++ [some v0])) (env' ++ (te ++ [some (d0, md0)])) → ItOk K G F0 J v0 d0 md0 ds → R J H'
def PDI (X : Cx) (W : WX) (tg iter : Expr) (m : DI) : Prop := PI X tg iter (tDI X.K W m)
theorem PI.imp {X : Cx} {tg e : Expr} {t t' : TI} (h : PI X tg e t) (k : ∀ σ H Q, t' σ H Q → t σ H Q) : PI X tg e t' := ⟨fun pins s σ H Q I q => h.run pins s σ H Q I (k σ H Q q)⟩

@[simp ↓] def forIter (g : DG) (m : DS) : List (D × Md) → Env → DEnds → Prop
  | [], env, E => E.nx env
  | (d, md) :: ds, env, E => g d md env (fun e1 => m e1 { E with nx := fun e2 => forIter g m ds e2 E, ct := fun e2 => forIter g m ds e2 E, bk := E.nx }) E.ex
def dFor (mi : DI) (g : DG) (m : DS) : DS := fun env E => mi env (fun ds e => forIter g m ds e E) E.ex
def wIter (mt : DT) (m : DS) : Nat → Env → DEnds → Prop
  | 0, _, _ => False
  | n + 1, env, E => mt env (fun b e => if b = true then m e { E with nx := fun e2 => wIter mt m n e2 E, ct := fun e2 => wIter mt m n e2 E, bk := E.nx } else E.nx e) E.ex
def dWhile (mt : DT) (m : DS) : DS := fun env E => ∃ n, wIter mt m n env E
section
variable {X : Cx} {W : WX} {p p1 p2 : Bool} {pos : Pos} {m : DS} {mt : DT} {body : List Stmt}
theorem pds_while {c : Expr} (hp : PassesOwn (model X.prog X.w) X.A X.env X.xe) (hc : PDT X W p c mt) (hb : PDSs X W body m) : PDS X W (.While c body [] pos) (dWhile mt m) := by
  refine pds_of (ps_while hp hc hb) fun G F0 F H σ env tv te E D S l1 l2 nv wo ⟨n, hm⟩ k1 k2 k3 k4 => ?_
  refine ⟨fun n σ' H' => ∃ (F' : Hp) (env' : Env), wIter mt m n env' E ∧ env'.length = σ'.length ∧ σ'.length = σ.length ∧ StD X.K G F0 F' H' (σ' ++ tv) (env' ++ te), ⟨n, F, env, hm, l1, rfl, S⟩, ?_⟩
  rintro n σ1 H1 ⟨F1, env1, q, l3, l4, S1⟩
  cases n with
  | zero => exact q.elim
  | succ n =>
    refine ⟨G, F0, F1, env1, tv, te, _, E.ex, S1, l3, l2, .inr nv, wo, q, fun b F2 H2 env2 q2 l5 S2 => ?_⟩
    cases b with
    | false => exact k1 σ1 F2 H2 env2 q2 l5 l4 S2
    | true =>
      refine ⟨fun σ' H' => ∃ (F' : Hp) (env' : Env), wIter mt m n env' E ∧ env'.length = σ'.length ∧ σ'.length = σ.length ∧ StD X.K G F0 F' H' (σ' ++ tv) (env' ++ te), fun σ' H' q => ⟨n, Nat.lt_succ_self n, q⟩, ?_⟩
      rw [if_pos rfl] at q2
      exact ⟨G, F0, F2, env2, tv, te, { E with nx := fun e2 => wIter mt m n e2 E, ct := fun e2 => wIter mt m n e2 E, bk := E.nx }, S2, l5, l2, nv, wo, q2, fun σ3 F3 H3 env3 q3 l6 l7 S3 => ⟨F3, env3, q3, l6, l7.trans l4, S3⟩, fun v d md σ3 F3 H3 env3 q3 g l6 l7 S3 => k2 v d md σ3 F3 H3 env3 q3 g l6 (l7.trans l4) S3,
        fun σ3 F3 H3 env3 q3 l6 l7 S3 => k1 σ3 F3 H3 env3 q3 l6 (l7.trans l4) S3, fun σ3 F3 H3 env3 q3 l6 l7 S3 => ⟨F3, env3, q3, l6, l7.trans l4, S3⟩⟩
theorem pds_for {tg iter : Expr} {mi : DI} {g : DG} {ws : List Nat} (hp : PassesOwn (model X.prog X.w) X.A X.env X.xe) (hc : X.calm = true) (hi : PDI X W tg iter mi) (hg : PDG X W ws tg g) (hb : PDSs X W body m)
    (hs : ∀ x, foldedSetIterable iter X.env x = pure x := by intro _; rfl) : PDS X W (.For tg iter body [] pos) (dFor mi g m) := by
  refine pds_of (ps_for hp hc hi hg hb hs) fun G F0 F H σ env tv te E D S l1 l2 nv wo hm k1 k2 k3 k4 => ?_
  refine ⟨G, F0, F, env, tv, te, _, E.ex, S, l1, l2, nv, wo, hm, fun J v0 d0 md0 ds F1 H1 env1 q l3 nv0 S1 ok => ?_⟩
  refine ⟨fun i n σ' H' => n = ds.length - i ∧ i ≤ ds.length ∧ ∃ (F' : Hp) (env' : Env), forIter g m (ds.drop i) env' E ∧ env'.length = σ'.length ∧ σ'.length = σ.length ∧ StD X.K G F0 F' H' (σ' ++ (tv ++ [some v0])) (env' ++ (te ++ [some (d0, md0)])), ⟨ds.length, by simp, Nat.zero_le _, F1, env1, by simpa using q, l3, rfl, S1⟩, ?_⟩
  rintro i n σ2 H2 ⟨rfl, hi, F2, env2, q2, l4, l5, S2⟩
  have ok2 := ok F2 H2 _ _ (env2.length + te.length) S2 (get_snoc (by omega)) (get_snoc rfl) i
  by_cases hlt : i < ds.length
  · obtain ⟨go, yl⟩ := ok2.1 hlt
    refine .inr ⟨go, fun σ' H' => ∃ (F' : Hp) (env' : Env), forIter g m (ds.drop (i + 1)) env' E ∧ env'.length = σ'.length ∧ σ'.length = σ.length ∧ StD X.K G F0 F' H' (σ' ++ (tv ++ [some v0])) (env' ++ (te ++ [some (d0, md0)])), fun σ' H' q => ⟨ds.length - (i + 1), by omega, rfl, hlt, q⟩, fun x H3 hy => ?_⟩
    obtain ⟨e, rt⟩ := yl x H3 hy
    subst e
    obtain ⟨⟨d, md⟩, hd⟩ : ∃ y, ds[i] = y := ⟨_, rfl⟩
    have hd' : ds[i]? = some (d, md) := by rw [List.getElem?_eq_getElem hlt, hd]
    have r := rt d md hd'
    have dr : ds.drop i = (d, md) :: ds.drop (i + 1) := by rw [List.drop_eq_getElem_cons hlt, hd]
    rw [dr, forIter] at q2
    have S3 := push02 S2 l4 (by simp [l2]) r
    refine ⟨G, F0, F2, env2, tv ++ [some v0], te ++ [some (d0, md0)], d, md, _, E.ex, S3, l4, by simp [l2], nv.snoc nv0, wo.snoc, q2, fun σ4 F4 H4 env4 q4 l6 l7 _ S4 => ?_⟩
    refine ⟨G, F0, F4, env4, tv ++ [some v0], te ++ [some (d0, md0)], { E with nx := fun e2 => forIter g m (ds.drop (i + 1)) e2 E, ct := fun e2 => forIter g m (ds.drop (i + 1)) e2 E, bk := E.nx }, S4, l6, by simp [l2], nv.snoc nv0, wo.snoc, q4, fun σ5 F5 H5 env5 q5 l8 l9 S5 => ⟨F5, env5, q5, l8, (l9.trans l7).trans l5, S5⟩,
      fun v d md σ5 F5 H5 env5 q5 gv l8 l9 S5 => k2 v d md σ5 F5 H5 env5 q5 gv l8 ((l9.trans l7).trans l5) (S5.dropMid l8 l2), fun σ5 F5 H5 env5 q5 l8 l9 S5 => k1 σ5 F5 H5 env5 q5 l8 ((l9.trans l7).trans l5) (S5.reix' l8 l2),
      fun σ5 F5 H5 env5 q5 l8 l9 S5 => ⟨F5, env5, q5, l8, (l9.trans l7).trans l5, S5⟩⟩
  · have e : i = ds.length := by omega
    subst e
    rw [List.drop_length] at q2
    exact .inl ⟨ok2.2 (Nat.le_refl _), k1 σ2 F2 H2 env2 q2 l4 l5 (S2.reix' l4 l2)⟩
end
end DL
/-! D layer, part 9: what is walked; list comprehensions. -/
namespace DL
open PySem PySem.Spec PyProof.Rows L2

section
variable {X : Cx} {W : WX} {p p1 p2 : Bool} {pos : Pos} {e tg : Expr} {ma : DE}
/-- the items of a list or a tuple -/
@[simp ↓] def seqItems (d : D) (md : Md) : Option (List (D × Md)) := match d, md with
  | .lst ds, .frz => some (ds.map (·, .frz))
  | .lst ds, .lent => some (ds.map (·, .lent))
  | .lst ds, .own (.o .f) => some (ds.map (·, .frz))
  | _, _ => none
@[simp ↓] def diL (ma : DE) : DI := fun env R Ex => ma env (fun d md e => match seqItems d md with
  | some ds => R ds e
  | none => False) Ex
theorem itL {K : PySem.W.Frag} {G F0 : Hp} {a : Addr} {ds0 : List D} {md : Md} {ds : List (D × Md)} (h : seqItems (.lst ds0) md = some ds) : ItOk K G F0 (Itl K a) (.ref a) (.lst ds0) md ds := by
  intro F H vs es k S hv he i
  obtain ⟨v, as, hv', r⟩ := S.getR he
  rw [hv] at hv'; cases hv'
  have key : ∀ (xs : List V) (Z : Hp) (md' : Md), H a = some (.lst xs) → DvA K Z xs ds0 → ds = ds0.map (·, md') → (∀ x d, Dv K Z x d → Rt K G F H x d md' []) →
      (i < ds.length → (Itl K a).go i H ∧ ∀ x H', (Itl K a).yld i H x H' → H' = H ∧ ∀ d md, ds[i]? = some (d, md) → Rt K G F H x d md []) ∧ (ds.length ≤ i → (Itl K a).stop i H) := fun xs Z md' hH hA e1 hr => by
    have ln : xs.length = ds.length := by rw [e1, hA.length, List.length_map]
    have sq : SqL K H a xs := .inl (.inl hH)
    refine ⟨fun hi => ?_, fun hi => ⟨xs, sq, by omega⟩⟩
    have hx : xs[i]? = some xs[i] := List.getElem?_eq_getElem (by omega)
    refine ⟨⟨xs, xs[i], sq, hx⟩, fun x H' ⟨e, hy⟩ => ⟨e, fun d md hd => ?_⟩⟩
    have := hy xs sq
    rw [hx] at this; cases this
    obtain ⟨d', hd', dv⟩ := hA.getV hx
    rw [e1, List.getElem?_map, hd'] at hd
    cases hd
    exact hr _ _ dv
  cases md with
  | frz =>
    have h : some (ds0.map (·, Md.frz)) = some ds := h
    cases h
    cases r.1 with
    | lst hs hA => exact key _ F .frz (S.fh _ _ hs) hA rfl fun x d q => ⟨q, rfl⟩
  | lent =>
    have h : some (ds0.map (·, Md.lent)) = some ds := h
    cases h
    cases r.1 with
    | lst hs hA => exact key _ G .lent (S.gh _ _ hs) hA rfl fun x d q => ⟨q, rfl⟩
  | view m => cases h
  | brw m v => cases h
  | own m =>
    cases m with
    | f => cases h
    | ob ms => cases h
    | o m =>
      cases m with
      | o m => cases h
      | ob ms => cases h
      | f =>
        have h : some (ds0.map (·, Md.frz)) = some ds := h
        cases h
        have r' : Ow K F H (.o .f) (.ref a) (.lst ds0) as := r
        cases r' with
        | lst hs hO =>
          obtain ⟨_, hA⟩ := owL_f hO
          exact key _ F .frz hs hA rfl fun x d q => ⟨q, rfl⟩
theorem pdi_list (he : PD X W p e ma) : PDI X W tg e (diL ma) := by
  refine PI.imp (pi_list he) fun σ H R ⟨G, F0, F, env, tv, te, Rk, Ex, S, l1, l2, nv, wo, hm, hk⟩ => ?_
  refine ⟨G, F0, F, env, tv, te, _, Ex, S, l1, l2, .inr nv, wo, hm, fun v d md F1 H1 env1 q l3 S1 => ?_⟩
  split at q
  · rename_i ds hs
    have dl : ∃ ds0, d = .lst ds0 ∧ md.noview = true := by
      unfold seqItems at hs
      split at hs <;> first | exact ⟨_, rfl, rfl⟩ | cases hs
    obtain ⟨ds0, rfl, nv0⟩ := dl
    have dv := S1.lastV l3 l2
    cases dv with
    | lst hH hA => exact ⟨_, rfl, ⟨_, .inl (.inl hH)⟩, hk _ _ _ md ds F1 H1 env1 q l3 nv0 S1 (itL hs)⟩
  · exact q.elim
/-- range(n), range(a, b) -/
@[simp ↓] def rngD (lo : Int) (n : Nat) : List (D × Md) := (List.range n).map fun (k : Nat) => (D.int (lo + (k : Int)), Md.frz)
theorem itR {K : PySem.W.Frag} {G F0 : Hp} {lo : Int} {n : Nat} {v0 : V} {d0 : D} {md0 : Md} : ItOk K G F0 (Itr lo n) v0 d0 md0 (rngD lo n) := by
  intro F H vs es k S hv he i
  have ln : (rngD lo n).length = n := by simp [rngD]
  refine ⟨fun hi => ⟨by show i < n; omega, fun x H' ⟨e, hx⟩ => ⟨e, fun d md hd => ?_⟩⟩, fun hi => by show n ≤ i; omega⟩
  subst hx
  unfold rngD at hd
  rw [List.getElem?_map, List.getElem?_range (by omega)] at hd
  cases hd
  exact ⟨.int _, rfl⟩
@[simp ↓] def diR1 (m : DA) : DI := fun env R Ex => m env (fun ds e => match ds with
  | [(.int j, _)] => (-(2 ^ 62) ≤ j ∧ j < 2 ^ 62) ∧ R (rngD 0 j.toNat) e
  | _ => False) Ex
@[simp ↓] def diR2 (m : DA) : DI := fun env R Ex => m env (fun ds e => match ds with
  | [(.int i, _), (.int j, _)] => (-(2 ^ 62) ≤ i ∧ i < 2 ^ 62 ∧ -(2 ^ 62) ≤ j ∧ j < 2 ^ 62) ∧ R (rngD i (j - i).toNat) e
  | _ => False) Ex
theorem pdi_range1 {a : Expr} {q : Pos} {m : DA} (hg : Gl X "range") (hm : X.mg "range" = none) (ha : PDA X W p [a] m) (hs : starEach [a] X.env = [(false, eval a X.env)] := by rfl) : PDI X W tg (.Call (.Name "range" q) [a] [] pos) (diR1 m) := by
  refine PI.imp (pi_range1 hg hm ha hs) fun σ H R ⟨G, F0, F, env, tv, te, Rk, Ex, S, l1, l2, nv, wo, hm, hk⟩ => ?_
  refine ⟨G, F0, F, env, tv, te, _, Ex, S, l1, l2, .inr nv, wo, hm, fun xs ds F1 H1 env1 q l3 ln S1 => ?_⟩
  split at q
  · rename_i j md
    have dv := StD.all (vs := σ ++ tv) (es := env1 ++ te) (by simpa [List.append_assoc] using S1) (by simp [l3, l2]) ln
    cases dv with
    | cons h1 h2 =>
      cases h1; cases h2
      have S2 : StD X.K G F0 F1 H1 (σ ++ tv) (env1 ++ te) := (show StD X.K G F0 F1 H1 ((σ ++ tv) ++ [some (V.int j)]) ((env1 ++ te) ++ [some (D.int j, md)]) by simpa [List.append_assoc] using S1).drop (by simp [l3, l2])
      exact ⟨j, rfl, q.1.1, q.1.2, hk _ .non .non .frz _ F1 H1 env1 q.2 l3 rfl (pushF2 S2 l3 l2 .non) itR⟩
  · exact q.elim
theorem pdi_range2 {a b : Expr} {q : Pos} {m : DA} (hg : Gl X "range") (hm : X.mg "range" = none) (ha : PDA X W p [a, b] m) (hs : starEach [a, b] X.env = [(false, eval a X.env), (false, eval b X.env)] := by rfl) (hs2 : starEach [b] X.env = [(false, eval b X.env)] := by rfl) :
    PDI X W tg (.Call (.Name "range" q) [a, b] [] pos) (diR2 m) := by
  refine PI.imp (pi_range2 hg hm ha hs hs2) fun σ H R ⟨G, F0, F, env, tv, te, Rk, Ex, S, l1, l2, nv, wo, hm, hk⟩ => ?_
  refine ⟨G, F0, F, env, tv, te, _, Ex, S, l1, l2, .inr nv, wo, hm, fun xs ds F1 H1 env1 q l3 ln S1 => ?_⟩
  split at q
  · rename_i i mi j mj
    have dv := StD.all (vs := σ ++ tv) (es := env1 ++ te) (by simpa [List.append_assoc] using S1) (by simp [l3, l2]) ln
    cases dv with
    | cons h1 h2 =>
      cases h1
      cases h2 with
      | cons h3 h4 =>
        cases h3; cases h4
        have S2 : StD X.K G F0 F1 H1 (σ ++ tv) (env1 ++ te) := (show StD X.K G F0 F1 H1 ((σ ++ tv) ++ [some (V.int i), some (V.int j)]) ((env1 ++ te) ++ [some (D.int i, mi), some (D.int j, mj)]) by simpa [List.append_assoc] using S1).drop (by simp [l3, l2])
        exact ⟨i, j, rfl, q.1, hk _ .non .non .frz _ F1 H1 env1 q.2 l3 rfl (pushF2 S2 l3 l2 .non) itR⟩
  · exact q.elim
end

/-! ### list comprehensions -/
@[simp ↓] def wipeE (e : Env) : List Nat → Env
  | [] => e
  | v :: vs => (wipeE e vs).set v none
theorem wipeE_len (e : Env) : ∀ vs : List Nat, (wipeE e vs).length = e.length
  | [] => rfl
  | v :: vs => by unfold wipeE; rw [List.length_set, wipeE_len e vs]
theorem wipeE_some {e : Env} {i : Nat} {x : D × Md} : ∀ {vs : List Nat}, (wipeE e vs)[i]? = some (some x) → e[i]? = some (some x) ∧ i ∉ vs
  | [], h => ⟨h, by simp⟩
  | v :: vs, h => by
    unfold wipeE at h
    by_cases hi : v = i
    · subst hi
      by_cases hv : v < (wipeE e vs).length
      · rw [List.getElem?_set_self hv] at h; cases h
      · rw [List.getElem?_eq_none (by simpa using hv)] at h; cases h
    · rw [List.getElem?_set_ne hi] at h
      obtain ⟨h1, h2⟩ := wipeE_some h
      exact ⟨h1, by simp only [List.mem_cons, not_or]; exact ⟨fun e => hi e.symm, h2⟩⟩
theorem wipe_out {σ : L2.St} {i : Nat} : ∀ {vs : List Nat}, i ∉ vs → (wipe σ vs)[i]? = σ[i]?
  | [], _ => rfl
  | v :: vs, h => by
    simp only [List.mem_cons, not_or] at h
    unfold wipe
    rw [List.getElem?_set_ne (Ne.symm h.1), wipe_out h.2]
theorem wipe_in {σ : L2.St} {i : Nat} : ∀ {vs : List Nat}, i ∈ vs → i < σ.length → (wipe σ vs)[i]? = some none
  | [], h, _ => by simp at h
  | v :: vs, h, hl => by
    unfold wipe
    by_cases hi : v = i
    · subst hi; rw [List.getElem?_set_self (by rw [wipe_length]; exact hl)]
    · rw [List.getElem?_set_ne hi]
      exact wipe_in ((List.mem_cons.mp h).resolve_left (Ne.symm hi)) hl
theorem wipe_eq {σ σ2 : L2.St} {vs ws : List Nat} (hl : σ2.length = σ.length) (hs : ∀ j ∈ ws, j ∈ vs) (h : ∀ j, j ∉ ws → σ2[j]? = (wipe σ vs)[j]?) : wipe σ2 vs = wipe σ vs := by
  apply List.ext_getElem?
  intro j
  by_cases hj : j ∈ vs
  · by_cases hlt : j < σ.length
    · rw [wipe_in hj hlt, wipe_in hj (by omega)]
    · rw [List.getElem?_eq_none (by rw [wipe_length]; omega), List.getElem?_eq_none (by rw [wipe_length]; omega)]
  · rw [wipe_out hj, h j fun q => hj (hs j q)]
@[simp ↓] def nox : DX := fun _ _ => False
def lcIter (vs : List Nat) (g : DG) (tt : DT) (elt : DE) : List (D × Md) → Env → List D → (List D → Env → Prop) → Prop
  | [], env, acc, R => R acc env
  | (d, md) :: ds, env, acc, R => g d md env (fun e1 => tt e1 (fun b e2 => if b = true then elt e2 (fun y my e3 => capB y my = true ∧ noviewE e3 = true ∧ acc.length < sizeLine ∧ lcIter vs g tt elt ds (wipeE e3 vs) (acc ++ [y]) R) nox
      else lcIter vs g tt elt ds (wipeE e2 vs) acc R) nox) nox
def dLc (vs : List Nat) (mi : DI) (g : DG) (tt : DT) (elt : DE) : DE := fun env R Ex => mi env (fun ds e => lcIter vs g tt elt ds (wipeE e vs) [] fun acc e' => R (.lst acc) (.own (.o .f)) e') Ex
/-- no exception is wished for -/
abbrev wF : WX := fun _ _ _ _ => False
theorem wok_nox {K : PySem.W.Frag} {G F0 : Hp} {tv : List (Option V)} {te : Env} : WOk K wF G F0 tv te nox := ⟨[], tv, [], te, rfl, rfl, rfl, fun x env' cls dx σ' F' H' h => h.elim⟩
def PDTs (X : Cx) (W : WX) (p : Bool) (ifs : List Expr) (m : DT) : Prop := PTs X ifs (tDT X.K W p m)
@[simp ↓] def dYes : DT := fun env R _ => R true env
section
variable {X : Cx} {W : WX} {p p1 p2 : Bool} {pos : Pos} {elt tg iter : Expr} {ifs : List Expr} {mi : DI} {g : DG} {tt : DT} {me : DE} {ws : List Nat} {own : List (Str × Nat)} {scope : Scope}
theorem pdts_nil : PDTs X W true [] dYes := ⟨fun pins s σ H Q I ⟨G, F0, F, env, tv, te, R, Ex, S, l1, l2, nv, wo, hm, hk⟩ => pts_nil.run pins s σ H Q I (hk true F H env hm l1 S)⟩
theorem pdts_one {c : Expr} (h : PDT X W p c tt) : PDTs X W p [c] tt := pts_one h
theorem StD.wiped {K : PySem.W.Frag} {G F0 F H : Hp} {σ σ2 : L2.St} {env te : Env} {tv : List (Option V)} {vs : List Nat} (S : StD K G F0 F H (σ2 ++ tv) (env ++ te)) (l1 : env.length = σ2.length) (l3 : σ2.length = σ.length) (h : ∀ j, j ∉ vs → σ2[j]? = σ[j]?) :
    StD K G F0 F H (σ ++ tv) (wipeE env vs ++ te) := by
  refine S.reix id (fun _ _ _ _ e => e) fun j x e => ?_
  simp only [id]
  by_cases hj : j < env.length
  · rw [List.getElem?_append_left (by rw [wipeE_len]; exact hj)] at e
    obtain ⟨e1, hn⟩ := wipeE_some e
    refine ⟨get_left e1, ?_⟩
    rw [List.getElem?_append_left (by omega), List.getElem?_append_left (by omega), h j hn]
  · rw [List.getElem?_append_right (by rw [wipeE_len]; omega), wipeE_len] at e
    refine ⟨by rw [List.getElem?_append_right (by omega)]; exact e, ?_⟩
    rw [List.getElem?_append_right (by omega), List.getElem?_append_right (by omega), l3]
theorem lc_D (hws : ∀ j ∈ ws, j ∈ own.map (·.2)) {σ : L2.St} {H : Hp} {Q : VK} (nvp : p = true ∨ True) (h : tD X.K W false (dLc (own.map (·.2)) mi g tt me) σ H Q) :
    tLc (tDI X.K W mi) (tDG X.K wF ws g) (tDT X.K wF p1 tt) (tD X.K wF p2 me) (own.map (·.2)) σ H Q := by
  obtain ⟨G, F0, F, env, tv, te, R, Ex, S, l1, l2, nv, wo, hm, hk⟩ := h
  have nv : NoView te := nv.resolve_left (by decide)
  refine ⟨G, F0, F, env, tv, te, _, Ex, S, l1, l2, nv, wo, hm, fun J v0 d0 md0 ds F1 H1 env1 q l3 nv0 S1 ok Dn hD => ?_⟩
  -- the list that is made
  have S2 := push_newL S1 (by simp [l3, l2]) hD (.nil : DvA X.K F1 [] [])
  refine ⟨fun i n H' => n = ds.length - i ∧ i ≤ ds.length ∧ ∃ (F' : Hp) (env' : Env) (acc : List DL.D), lcIter (own.map (·.2)) g tt me (ds.drop i) (wipeE env' (own.map (·.2))) acc (fun acc e' => R (.lst acc) (.own (.o .f)) e') ∧ env'.length = σ.length ∧
    StD X.K G F0 F' H' (σ ++ (tv ++ [some v0] ++ [some (.ref Dn)])) (wipeE env' (own.map (·.2)) ++ (te ++ [some (d0, md0)] ++ [some (.lst acc, .own (.o .f))])), ⟨ds.length, by simp, Nat.zero_le _, F1, env1, [], by simpa using q, l3, ?_⟩, ?_⟩
  · have S3 : StD X.K G F0 F1 (upd H1 Dn (.lst [])) (σ ++ (tv ++ [some v0] ++ [some (.ref Dn)])) (env1 ++ (te ++ [some (d0, md0)] ++ [some (.lst [], .own (.o .f))])) := by simpa [List.append_assoc] using S2
    exact S3.wiped l3 rfl fun _ _ => rfl
  rintro i n H2 ⟨rfl, hi, F2, env2, acc, q2, l4, S3⟩
  have lw : (wipeE env2 (own.map (·.2))).length = σ.length := by rw [wipeE_len]; exact l4
  have ok2 := ok F2 H2 _ _ ((wipeE env2 (own.map (·.2))).length + te.length) S3 (by rw [List.append_assoc tv, assoc3, List.getElem?_append_right (by simp; omega)]; simp [lw, l2]) (by rw [List.append_assoc te, assoc3, List.getElem?_append_right (by simp)]; simp) i
  by_cases hlt : i < ds.length
  · obtain ⟨go, yl⟩ := ok2.1 hlt
    refine .inr ⟨go, fun H' => ∃ (F' : Hp) (env' : Env) (acc : List DL.D), lcIter (own.map (·.2)) g tt me (ds.drop (i + 1)) (wipeE env' (own.map (·.2))) acc (fun acc e' => R (.lst acc) (.own (.o .f)) e') ∧ env'.length = σ.length ∧
      StD X.K G F0 F' H' (σ ++ (tv ++ [some v0] ++ [some (.ref Dn)])) (wipeE env' (own.map (·.2)) ++ (te ++ [some (d0, md0)] ++ [some (.lst acc, .own (.o .f))])), fun H' q => ⟨ds.length - (i + 1), by omega, rfl, hlt, q⟩, fun x H3 hy => ?_⟩
    obtain ⟨e, rt⟩ := yl x H3 hy
    subst e
    obtain ⟨⟨d, md⟩, hd⟩ : ∃ y, ds[i] = y := ⟨_, rfl⟩
    have hd' : ds[i]? = some (d, md) := by rw [List.getElem?_eq_getElem hlt, hd]
    have r := rt d md hd'
    have dr : ds.drop i = (d, md) :: ds.drop (i + 1) := by rw [List.drop_eq_getElem_cons hlt, hd]
    rw [dr, lcIter] at q2
    -- the block's slots
    have S4 : StD X.K G F0 F2 H3 (wipe σ (own.map (·.2)) ++ (tv ++ [some v0] ++ [some (.ref Dn)])) (wipeE env2 (own.map (·.2)) ++ (te ++ [some (d0, md0)] ++ [some (.lst acc, .own (.o .f))])) := by
      have := S3.wiped (σ := wipe σ (own.map (·.2))) (vs := own.map (·.2)) lw (by rw [wipe_length]) fun j hj => (wipe_out hj).symm
      refine this.reix id (fun _ _ _ _ e => e) fun j z e => ⟨?_, rfl⟩
      simp only [id]
      by_cases hj : j < (wipeE env2 (own.map (·.2))).length
      · rw [List.getElem?_append_left hj] at e
        obtain ⟨_, hn⟩ := wipeE_some e
        rw [List.getElem?_append_left (by rw [wipeE_len]; exact hj)]
        have wo' : ∀ {e : Env} {vs : List Nat}, j ∉ vs → (wipeE e vs)[j]? = e[j]? := by
          intro e vs
          induction vs with
          | nil => intro _; rfl
          | cons v vs ih =>
            intro h
            simp only [List.mem_cons, not_or] at h
            unfold wipeE
            rw [List.getElem?_set_ne (Ne.symm h.1), ih h.2]
        rw [wo' hn]; exact e
      · rw [List.getElem?_append_right (by omega)] at e
        rw [List.getElem?_append_right (by rw [wipeE_len]; omega), wipeE_len]; exact e
    have lwσ : (wipeE env2 (own.map (·.2))).length = (wipe σ (own.map (·.2))).length := by rw [lw, wipe_length]
    have S5 := push02 S4 lwσ (by simp [l2]) r
    have nvt : NoView (te ++ [some (d0, md0)] ++ [some (.lst acc, .own (.o .f))]) := (nv.snoc nv0).snoc rfl
    refine ⟨G, F0, F2, wipeE env2 (own.map (·.2)), tv ++ [some v0] ++ [some (.ref Dn)], te ++ [some (d0, md0)] ++ [some (.lst acc, .own (.o .f))], d, md, _, nox, S5, lwσ, by simp [l2], nvt, wok_nox, q2, fun σ4 F4 H4 env4 q4 l6 l7 sw S6 => ?_⟩
    have l7' : σ4.length = σ.length := by rw [l7, wipe_length]
    have wq : wipe σ4 (own.map (·.2)) = wipe σ (own.map (·.2)) := wipe_eq l7' hws sw
    have back : ∀ j, j ∉ own.map (·.2) → σ4[j]? = σ[j]? := fun j hj => by
      rw [← wipe_out hj, wq, wipe_out hj]
    refine ⟨wq, G, F0, F4, env4, tv ++ [some v0] ++ [some (.ref Dn)], te ++ [some (d0, md0)] ++ [some (.lst acc, .own (.o .f))], _, nox, S6, l6, by simp [l2], .inr nvt, wok_nox, q4, fun b F5 H5 env5 q5 l8 S7 => ?_⟩
    cases b with
    | false =>
      exact ⟨F5, env5, acc, by simpa using q5, by omega, S7.wiped l8 l7' back⟩
    | true =>
      rw [if_pos rfl] at q5
      refine ⟨G, F0, F5, env5, tv ++ [some v0] ++ [some (.ref Dn)], te ++ [some (d0, md0)] ++ [some (.lst acc, .own (.o .f))], _, nox, S7, l8, by simp [l2], .inr nvt, wok_nox, q5, fun y dy my F6 H6 env6 ⟨hc, hnv, hz, q6⟩ l9 S8 => ?_⟩
      have S8' : StD X.K G F0 F6 H6 ((σ4 ++ (tv ++ [some v0] ++ [some (.ref Dn)])) ++ [some y]) ((env6 ++ (te ++ [some (d0, md0)] ++ [some (.lst acc, .own (.o .f))])) ++ [some (dy, my)]) := by simpa [List.append_assoc] using S8
      obtain ⟨F7, eF, S9, dv⟩ := S8'.capLast (by simp [l9, l2]) hc
      -- the accumulator
      have ea : (env6 ++ (te ++ [some (d0, md0)] ++ [some (D.lst acc, Md.own (.o .f))]))[env6.length + (te.length + 1)]? = some (some (D.lst acc, Md.own (.o .f))) := get_snoc (by simp)
      have va : (σ4 ++ (tv ++ [some v0] ++ [some (V.ref Dn)]))[env6.length + (te.length + 1)]? = some (some (V.ref Dn)) := get_snoc (by simp; omega)
      obtain ⟨v', as, hv', ra⟩ := S9.getR ea
      rw [va] at hv'; cases hv'
      have ra' : Ow X.K F7 H6 (.o .f) (.ref Dn) (.lst acc) as := ra
      cases ra' with
      | @lst _ _ xs _ _ hH hO =>
        obtain ⟨_, hA⟩ := owL_f hO
        refine ⟨xs, hH, by rw [hA.length]; exact hz, F7, env6, acc ++ [dy], q6, by omega, ?_⟩
        have nvall : ∀ (j : Nat) (dj : DL.D) (mj : Md), (env6 ++ (te ++ [some (d0, md0)] ++ [some (D.lst acc, Md.own (.o .f))]))[j]? = some (some (dj, mj)) → mj.noview = true := fun j dj mj e => by
          by_cases hj : j < env6.length
          · rw [List.getElem?_append_left hj] at e
            exact noviewE_get hnv e
          · rw [List.getElem?_append_right (by omega)] at e
            exact nvt _ (List.mem_of_getElem? e) dj mj rfl
        have S10 := S9.mutL (ds' := acc ++ [dy]) (xs' := xs ++ [y]) nvall ea (.inl rfl) va hH (hA.append (.cons dv .nil))
        have es' : (env6 ++ (te ++ [some (d0, md0)] ++ [some (D.lst acc, Md.own (.o .f))])).set (env6.length + (te.length + 1)) (some (D.lst (acc ++ [dy]), Md.own (.o .f))) = env6 ++ (te ++ [some (d0, md0)] ++ [some (D.lst (acc ++ [dy]), Md.own (.o .f))]) := by
          rw [List.set_append_right _ _ (by omega)]
          congr 1
          rw [List.set_append_right _ _ (by simp)]
          congr 1
          simp
        rw [es'] at S10
        exact S10.wiped l9 l7' back
  · have e : i = ds.length := by omega
    subst e
    rw [List.drop_length, lcIter] at q2
    exact .inl ⟨ok2.2 (Nat.le_refl _), hk _ _ _ F2 H2 _ q2 lw (S3.dropMid lw l2)⟩
theorem pd_lc (hc : X.calm = true) (hN : X.N.Nodup) (hi : PDI X W tg iter mi) (ok : BlkOk X.N X.env.scope scope own)
    (hg : ∀ (s : Shared) (H : Hp) (C : Addr) (cl : List (Str × Addr)) (fp : List Addr), PDG (X.blk s H scope (compEnvC scope cl C X.env) fp) wF ws tg g) (ht : ∀ (s : Shared) (H : Hp) (C : Addr) (cl : List (Str × Addr)) (fp : List Addr), PDTs (X.blk s H scope (compEnvC scope cl C X.env) fp) wF p1 ifs tt)
    (he : ∀ (s : Shared) (H : Hp) (C : Addr) (cl : List (Str × Addr)) (fp : List Addr), PD (X.blk s H scope (compEnvC scope cl C X.env) fp) wF p2 elt me) (hws : ∀ j ∈ ws, j ∈ own.map (·.2) := by decide) (hs : ∀ x, foldedSetIterable iter X.env x = pure x := by intro _; rfl) :
    PD X W false (.ListComp elt [⟨tg, iter, ifs, 0⟩] scope pos) (dLc (own.map (·.2)) mi g tt me) :=
  PE.imp (pe_lc hc hN hi ok (g := tDG X.K wF ws g) (tt := tDT X.K wF p1 tt) (te := tD X.K wF p2 me) (fun s H C cl fp => hg s H C cl fp) (fun s H C cl fp => ht s H C cl fp) (fun s H C cl fp => he s H C cl fp) hs) fun σ H Q h => lc_D (p := true) hws (.inr trivial) h
theorem pds_setLc {i : Nat} {y : Str} {py spos : Pos} (hc : X.calm = true) (hN : X.N.Nodup) (hy : X.N[i]? = some y) (hyl : X.env.scope.names.lookup y = some .local)
    (hsw : swapsWith (.ListComp elt [⟨tg, iter, ifs, 0⟩] scope pos) (some (.Name y py)) spos.line X.env = pure true) (hi : PDI X W tg iter mi) (ok : BlkOk X.N X.env.scope scope own)
    (hg : ∀ (s : Shared) (H : Hp) (C : Addr) (cl : List (Str × Addr)) (fp : List Addr), PDG (X.blk s H scope (compEnvC scope cl C X.env) fp) wF ws tg g) (ht : ∀ (s : Shared) (H : Hp) (C : Addr) (cl : List (Str × Addr)) (fp : List Addr), PDTs (X.blk s H scope (compEnvC scope cl C X.env) fp) wF p1 ifs tt)
    (he : ∀ (s : Shared) (H : Hp) (C : Addr) (cl : List (Str × Addr)) (fp : List Addr), PD (X.blk s H scope (compEnvC scope cl C X.env) fp) wF p2 elt me) (hws : ∀ j ∈ ws, j ∈ own.map (·.2) := by decide) (hs : ∀ x, foldedSetIterable iter X.env x = pure x := by intro _; rfl) :
    PDS X W (.Assign [.Name y py] (.ListComp elt [⟨tg, iter, ifs, 0⟩] scope pos) spos) (dAsg (dLc (own.map (·.2)) mi g tt me) (dgName i)) :=
  pds_of (ps_setLc hc hN hy hyl hsw hi ok (g := tDG X.K wF ws g) (tt := tDT X.K wF p1 tt) (te := tD X.K wF p2 me) (fun s H C cl fp => hg s H C cl fp) (fun s H C cl fp => ht s H C cl fp) (fun s H C cl fp => he s H C cl fp) hs) fun G F0 F H σ env tv te E D S l1 l2 nv wo hm k1 k2 k3 k4 => lc_D (p := true) hws (.inr trivial) ⟨G, F0, F, env, tv, te, _, E.ex, S, l1, l2, .inr nv, wo, hm, fun v d md F1 H1 env1 q l3 S1 =>
    gName_D (X := X) (W := W) ⟨G, F0, F1, env1, tv, te, d, md, E.nx, E.ex, S1, l3, l2, nv, wo, q, fun σ' F' H' env' q' l4 l5 _ => k1 σ' F' H' env' q' l4 l5⟩⟩
end
end DL
/-! D layer, part 10: defs; raise, try. -/
namespace DL
open PySem PySem.Spec PyProof.Rows L2

theorem StD.remap {K : PySem.W.Frag} {G F0 F H : Hp} {vs vs' : List (Option V)} {es es' : Env} (S : StD K G F0 F H vs es) (f : Nat → Nat) (inj : ∀ i j, (∃ p, es'[i]? = some (some p)) → (∃ p, es'[j]? = some (some p)) → f i = f j → i = j)
    (hv : ∀ i d md, es'[i]? = some (some (d, md)) → ∃ md0 v, es[f i]? = some (some (d, md0)) ∧ vs[f i]? = some (some v) ∧ vs'[i]? = some (some v) ∧ ∀ as, Rt K G F H v d md0 as → Rt K G F H v d md as) : StD K G F0 F H vs' es' := by
  obtain ⟨A, h1, h2, h3, h4⟩ := S.rts
  refine ⟨S.gh, S.fh, S.f0, S.fg, S.tu, fun i => match es'[i]? with | some (some _) => A (f i) | _ => [], fun i => ?_, fun i => ?_, fun i j a ha hb => ?_, fun i a ha => ?_⟩
  · cases q : es'[i]? with
    | none => simp [RtO, q]
    | some e =>
      cases e with
      | none => simp [RtO, q]
      | some p =>
        obtain ⟨d, md⟩ := p
        obtain ⟨md0, v, e1, e2, e3, k⟩ := hv i d md q
        have := h1 (f i)
        rw [e1, e2] at this
        obtain ⟨v', e4, r⟩ := this
        cases e4
        simp only [q]
        exact ⟨v, e3, k _ r⟩
  · dsimp only
    split
    · exact h2 _
    · exact List.nodup_nil
  · dsimp only at ha hb
    split at ha
    · rename_i p q
      split at hb
      · rename_i p' q'
        exact inj i j ⟨_, q⟩ ⟨_, q'⟩ (h3 _ _ a ha hb)
      · exact absurd hb List.not_mem_nil
    · exact absurd ha List.not_mem_nil
  · dsimp only at ha
    split at ha
    · exact h4 _ a ha
    · exact absurd ha List.not_mem_nil

/-- what the parameters hold at the end -/
@[simp ↓] def exitQ : List PMd → List V → Env → (List (Option D) → Prop) → Prop
  | [], _, _, R => R []
  | .m k :: ps, v :: vs, some (d, .brw k' v') :: e, R => k' = k ∧ v' = v ∧ exitQ ps vs e fun ms => R (some d :: ms)
  | .m _ :: _, _, _, _ => False
  | .l :: ps, _ :: vs, _ :: e, R => exitQ ps vs e fun ms => R (none :: ms)
  | .z :: ps, _ :: vs, _ :: e, R => exitQ ps vs e fun ms => R (none :: ms)
  | _, _, _, _ => False
theorem exitQ_get : ∀ {pm : List PMd} {vs : List V} {e : Env} {R : List (Option D) → Prop}, exitQ pm vs e R → ∃ ms, R ms ∧ ∀ (j : Nat) (d : D) (md : Md), (postE pm ms)[j]? = some (some (d, md)) → ∃ k v, md = .own k ∧ vs[j]? = some v ∧ e[j]? = some (some (d, .brw k v))
  | [], vs, e, R, h => ⟨[], h, fun j d md q => by simp [postE] at q⟩
  | .m k :: ps, [], _, R, h => h.elim
  | .m k :: ps, v :: vs, [], R, h => h.elim
  | .m k :: ps, v :: vs, none :: e, R, h => h.elim
  | .m k :: ps, v :: vs, some (d, .frz) :: e, R, h => h.elim
  | .m k :: ps, v :: vs, some (d, .lent) :: e, R, h => h.elim
  | .m k :: ps, v :: vs, some (d, .view _) :: e, R, h => h.elim
  | .m k :: ps, v :: vs, some (d, .own _) :: e, R, h => h.elim
  | .m k :: ps, v :: vs, some (d, .brw k' v') :: e, R, h => by
    obtain ⟨rfl, rfl, h⟩ := h
    obtain ⟨ms, h1, h2⟩ := exitQ_get h
    refine ⟨_, h1, fun j d' md q => ?_⟩
    cases j with
    | zero =>
      simp [postE] at q
      obtain ⟨rfl, rfl⟩ := q
      exact ⟨k', v', rfl, rfl, rfl⟩
    | succ j => simpa using h2 j d' md (by simpa [postE] using q)
  | .l :: ps, [], _, R, h => by cases h
  | .l :: ps, v :: vs, [], R, h => by cases h
  | .l :: ps, v :: vs, x :: e, R, h => by
    obtain ⟨ms, h1, h2⟩ := exitQ_get (pm := ps) (vs := vs) (e := e) (show exitQ ps vs e (fun ms => R (none :: ms)) from h)
    refine ⟨_, h1, fun j d' md q => ?_⟩
    cases j with
    | zero => simp [postE] at q
    | succ j => simpa using h2 j d' md (by simpa [postE] using q)
  | .z :: ps, [], _, R, h => by cases h
  | .z :: ps, v :: vs, [], R, h => by cases h
  | .z :: ps, v :: vs, x :: e, R, h => by
    obtain ⟨ms, h1, h2⟩ := exitQ_get (pm := ps) (vs := vs) (e := e) (show exitQ ps vs e (fun ms => R (none :: ms)) from h)
    refine ⟨_, h1, fun j d' md q => ?_⟩
    cases j with
    | zero => simp [postE] at q
    | succ j => simpa using h2 j d' md (by simpa [postE] using q)
/-- a def's end -/
@[simp ↓] def defEnds (pm : List PMd) (vs : List V) (Q : DOut → Prop) : DEnds where
  nx := fun e => exitQ pm vs e fun ms => Q (.ret .non .frz ms)
  rt := fun d md e => exitQ pm vs e fun ms => Q (.ret d md ms)
  ex := fun x e => exitQ pm vs e fun ms => Q (.exc x ms)
/-- the entry -/
@[simp ↓] def defEnv (pm : List PMd) (ds : List D) (vs : List V) (n : Nat) : Env := entE pm ds vs ++ List.replicate n none

section
variable {P : Program} {w : World} {K : PySem.W.Frag} {mg : Str → Option Value} {base : Heap}
theorem exit_S {G F F' H' : Hp} {pm : List PMd} {vs : List V} {σ' : L2.St} {env' : Env} {v : V} {d : D} {md : Md} {ms : List (Option D)} (S : StD K G F F' H' (σ' ++ [some v]) (env' ++ [some (d, md)])) (l : env'.length = σ'.length)
    (h : ∀ (j : Nat) (d : D) (md : Md), (postE pm ms)[j]? = some (some (d, md)) → ∃ k v, md = .own k ∧ vs[j]? = some v ∧ env'[j]? = some (some (d, .brw k v))) :
    StD K G F F' H' (some v :: vs.map some) (some (d, md) :: postE pm ms) := by
  refine S.remap (fun j => match j with | 0 => env'.length | j + 1 => j) (fun i j hi hj e => ?_) fun i d' md' e => ?_
  · have lt : ∀ {j : Nat}, (∃ p, (some (d, md) :: postE pm ms)[j + 1]? = some (some p)) → j < env'.length := fun {j} ⟨⟨d', md'⟩, q⟩ => by
      obtain ⟨k, v, _, _, e⟩ := h j d' md' (by simpa using q)
      exact (List.getElem?_eq_some_iff.mp e).1
    cases i with
    | zero => cases j with
      | zero => rfl
      | succ j => have := lt hj; dsimp only at e; omega
    | succ i => cases j with
      | zero => have := lt hi; dsimp only at e; omega
      | succ j => dsimp only at e; omega
  · cases i with
    | zero =>
      simp at e
      obtain ⟨rfl, rfl⟩ := e
      exact ⟨md, v, by simp, by dsimp only; rw [l]; simp, rfl, fun _ r => r⟩
    | succ j =>
      obtain ⟨k, v', rfl, hv, he⟩ := h j d' md' (by simpa using e)
      have hl : j < env'.length := (List.getElem?_eq_some_iff.mp he).1
      obtain ⟨v2, as, hv2, r⟩ := S.getR (get_left (r := [some (d, md)]) he)
      have hv2' : σ'[j]? = some (some v2) := by rw [List.getElem?_append_left (by omega)] at hv2; exact hv2
      have e1 : v2 = v' := r.1
      subst e1
      refine ⟨.brw k v2, v2, get_left he, get_left hv2', by simp [hv], fun _ r => r.2⟩
theorem exit_X {G F F' H' : Hp} {pm : List PMd} {vs : List V} {σ' : L2.St} {env' : Env} {ms : List (Option D)} (S : StD K G F F' H' σ' env') (l : env'.length = σ'.length)
    (h : ∀ (j : Nat) (d : D) (md : Md), (postE pm ms)[j]? = some (some (d, md)) → ∃ k v, md = .own k ∧ vs[j]? = some v ∧ env'[j]? = some (some (d, .brw k v))) :
    StD K G F F' H' (vs.map some) (postE pm ms) := by
  refine S.remap id (fun i j _ _ e => e) fun j d' md' e => ?_
  obtain ⟨k, v', rfl, hv, he⟩ := h j d' md' e
  obtain ⟨v2, as, hv2, r⟩ := S.getR he
  have e1 : v2 = v' := r.1
  subst e1
  exact ⟨.brw k v2, v2, he, hv2, by simp [hv], fun _ r => r.2⟩
/-- THE RULE for a def: its body by data -/
theorem fnD {x qual : Str} {st : Stmt} {f : Addr} {fd : FuncData} {N ps : List Str} {k : Nat} {pm : List PMd} {sp : DSp} {m : DS} (F : Fun K x qual st f fd) (S : FnScope N ps (defScope st)) (lp : pm.length = ps.length)
    (hbody : ∀ (cdv : Value) (A : Around) (outer : List PySem.Env) (s : Shared) (H : Hp) (E : XK) (W : WX), Takes (cxOf (CX P w) P w K mg base N qual (defScope st) f cdv A outer s H E) W → Room k (A.deeper (envOfC qual (defScope st) s.heap.objs.size f cdv)) →
      PDSs (cxOf (CX P w) P w K mg base N qual (defScope st) f cdv A outer s H E) W (defBody st) m)
    (hm : ∀ (ds : List D) (vs : List V) (Q : DOut → Prop), ds.length = pm.length → vs.length = pm.length → sp ds Q → m (defEnv pm ds vs (N.length - pm.length)) (defEnds pm vs Q)) : FnOk P w K mg base (CX P w) (k + 1) f fd ps (lift K pm sp) := by
  refine F.okX S (fun vs H Q E ⟨_, _, _, l, _⟩ => l.trans lp) fun cdv A outer s H vs Q E hr ⟨G, F0, ds, l1, l2, S0, hsp⟩ => ?_
  have tk : Takes (cxOf (CX P w) P w K mg base N qual (defScope st) f cdv A outer s H E) (fun cls d _ H' => E cls d H') := takes_of rfl rfl rfl rfl
  refine ⟨_, hbody cdv A outer s H E _ tk hr, ?_⟩
  have le := entE_len l2 l1
  have lN : ps.length ≤ N.length := by have := congrArg List.length S.pre; rw [List.length_take] at this; omega
  have q := hm ds vs _ l2 l1 hsp
  have S1 : StD K G F0 F0 H (L2.start N vs ++ []) (defEnv pm ds vs (N.length - pm.length) ++ []) := by
    refine S0.reix id (fun _ _ _ _ e => e) fun j p e => ?_
    rw [List.append_nil] at e
    simp only [id, List.append_nil]
    unfold defEnv at e
    by_cases hj : j < (entE pm ds vs).length
    · rw [List.getElem?_append_left hj] at e
      refine ⟨e, ?_⟩
      unfold L2.start
      rw [List.getElem?_append_left (by simp; omega)]
    · rw [List.getElem?_append_right (by omega), List.getElem?_replicate] at e
      split at e <;> cases e
  refine ⟨G, F0, F0, _, [], [], _, S1, by simp [defEnv, L2.start, le]; omega, rfl, NoView.nil, ⟨[], [], [], [], rfl, rfl, rfl, fun x' env' cls dx σ' F' H' hx l S' xr => ?_⟩, q, fun σ' F' H' env' hn l3 l4 S' => ?_, fun v d md σ' F' H' env' hr' g l3 l4 S' => ?_, fun _ _ _ _ h => h.elim, fun _ _ _ _ h => h.elim⟩
  · obtain ⟨ms, h1, h2⟩ := exitQ_get hx
    exact h1 cls dx F' H' (exit_X (show StD K G F0 F' H' σ' env' from by have z := S'; rw [List.append_nil, List.append_nil] at z; exact z) l h2) xr
  · obtain ⟨ms, h1, h2⟩ := exitQ_get hn
    exact h1 rfl .non F' H' (exit_S ((show StD K G F0 F' H' σ' env' from by have z := S'; rw [List.append_nil, List.append_nil] at z; exact z).pushF l3.symm .non) l3 h2)
  · obtain ⟨ms, h1, h2⟩ := exitQ_get hr'
    exact h1 g v F' H' (exit_S (show StD K G F0 F' H' (σ' ++ [some v]) (env' ++ [some (d, md)]) from S') l3 h2)
end

/-! ### raise -/
section
variable {X : Cx} {W : WX} {p : Bool} {pos : Pos}
/-- an own class of exceptions without __init__ -/
structure ExC (X : Cx) (x : Str) (C : Addr) : Prop where
  ex : ∃ (bmB : List Value) (B newId initId : String), ExcBaseFacts B newId initId bmB ∧ PySem.W.excIn X.K C bmB newId = true
  gC : X.mg x = some (.ref C)
  kC : PySem.W.keepIn X.K (.ref C) = true
  r1 : PySem.W.subIn X.K (.ref C) (.type "BaseException") = some true
  r2 : PySem.W.typeIn X.K (.ref C) = some (.type "type")
@[simp ↓] def dRaise (C : Addr) (m : DA) : DS := fun env E => m env (fun ds e => ds.length ≤ sizeLine ∧ E.ex ⟨.ref C, []⟩ e) E.ex
theorem pds_raise {x : Str} {q rpos : Pos} {e : Expr} {es : List Expr} {C : Addr} {m : DA} (c : ExC X x C) (hc : X.calm = true) (tk : Takes X W) (hg : Gl X x) (ha : PDA X W p (e :: es) m) (hdb : (x == ("__debug__" : Str)) = false := by decide)
    (he : starEach (e :: es) X.env = (false, eval e X.env) :: starEach es X.env := by rfl) (hpl : (backTo pos (starEach es X.env)).any (·.1) = false := by rfl) :
    PDS X W (.Raise (some (.Call (.Name x q) (e :: es) [] pos)) none rpos) (dRaise C m) := by
  obtain ⟨bmB, B, nI, iI, Fx, xin⟩ := c.ex
  refine pds_of (ps_raise hc tk (pmk_ownA Fx xin c.gC c.kC (raises_own c.r1 c.r2) hg ha hdb he hpl)) fun G F0 F H σ env tv te E D S l1 l2 nv wo hm k1 k2 k3 k4 => ?_
  refine ⟨G, F0, F, env, tv, te, _, E.ex, S, l1, l2, .inr nv, wo, hm, fun xs ds F1 H1 env1 ⟨hz, q⟩ l3 ln S1 => ⟨by omega, ?_⟩⟩
  refine wo.use q l3 (StD.drop (l := σ ++ tv) (a := env1 ++ te) (by simpa [List.append_assoc] using S1) (by simp [l3, l2])) ⟨rfl, .inl rfl⟩
end
end DL
/-! D layer, part 11: built-ins; targets of all kinds; what is changed by place. -/
namespace DL
open PySem PySem.Spec PyProof.Rows L2

/-! ### isinstance of built-in types -/
inductive BT where
  | int | bool | str | tuple | list | dict
@[simp ↓] def BT.name : BT → String
  | .int => "int" | .bool => "bool" | .str => "str" | .tuple => "tuple" | .list => "list" | .dict => "dict"
@[simp ↓] def isI : BT → D → Option Bool
  | _, .obj _ _ => none
  | _, .scr _ => none
  | .int, .int _ => some true
  | .int, .bl _ => some true
  | .bool, .bl _ => some true
  | .str, .str _ => some true
  | .tuple, .tup _ => some true
  | .list, .lst _ => some true
  | .dict, .dct _ => some true
  | _, _ => some false
def tyN : D → Option String
  | .non => some "NoneType" | .bl _ => some "bool" | .int _ => some "int" | .str _ => some "str" | .tup _ => some "tuple" | .lst _ => some "list" | .dct _ => some "dict" | _ => none
theorem isI_kit {K : PySem.W.Frag} {T : BT} {d : D} {b : Bool} {t : String} (h : isI T d = some b) (ht : tyN d = some t) : PySem.W.kitOne K (.type t) (.type T.name) = some b := by
  cases d <;> cases T <;> simp only [isI, tyN, Option.some.injEq, reduceCtorEq] at h ht <;> subst h ht <;> exact kit_ty (by decide +kernel)
theorem tyN_of {T : BT} {d : D} {b : Bool} (h : isI T d = some b) : ∃ t, tyN d = some t := by
  cases d <;> first | exact ⟨_, rfl⟩ | (cases T <;> cases h)
theorem Dv.tyx {K : PySem.W.Frag} {H : Hp} {v : V} {d : D} {t : String} (h : Dv K H v d) (ht : tyN d = some t) : TyX K H v (.type t) := by
  cases h with
  | non => cases ht; exact .base .non
  | bl b => cases ht; exact .base (.bl b)
  | int i => cases ht; exact .base (.int i)
  | str x => cases ht; exact .base (.str x)
  | tup hs _ =>
    cases ht
    rcases hs with (h | ⟨o, h⟩) | ⟨o, its, n, hk, hc, _⟩
    · exact .base (.tup h)
    · exact .fTuple h
    · exact .kTuple hk hc
  | lst hs _ => cases ht; exact .base (.lst hs)
  | dct hs _ _ => cases ht; exact .base (.dK hs)
  | obj _ _ _ => cases ht
  | scr _ => cases ht
section
variable {X : Cx} {W : WX} {p p1 p2 : Bool} {pos : Pos} {a e : Expr} {ma : DE}
@[simp ↓] def dIsi (T : BT) (ma : DE) : DE := fun env R Ex => ma env (fun d _ e => match isI T d with
  | some b => R (.bl b) .frz e
  | none => False) Ex
theorem pd_isi (T : BT) {x : Str} {q q2 : Pos} (ha : PD X W p a ma) (hg : Gl X "isinstance") (hm : X.mg "isinstance" = none) (hgT : Gl X x) (hmT : X.mg x = none) (hvT : bootBuiltins x = some (.type T.name)) (hn : x ≠ "__name__" := by decide) (hdb : (x == ("__debug__" : Str)) = false := by decide)
    (hs : starEach [a, .Name x q2] X.env = (false, eval a X.env) :: starEach [.Name x q2] X.env := by rfl) (hs2 : starEach [.Name x q2] X.env = (false, eval (.Name x q2) X.env) :: starEach [] X.env := by rfl) (hpl : (backTo pos (starEach [.Name x q2] X.env)).any (·.1) = false := by rfl) :
    PD X W p (.Call (.Name "isinstance" q) [a, .Name x q2] [] pos) (dIsi T ma) := by
  refine pd_of (pe_callB call_isi hg hm (by decide +kernel) (pa_cons ha (pa_cons (pe_bltn (v := .ty T.name) hgT hmT hvT rfl hn hdb) pa_nil hs2) hs) (by decide) (by decide) hs hpl) fun G F0 F H σ env tv te R Ex Q S l1 l2 nv wo hm hk => ?_
  refine ⟨G, F0, F, env, tv, te, _, Ex, S, l1, l2, nv, wo, hm, fun x d md F1 H1 env1 q l3 S1 => ?_⟩
  split at q
  · rename_i b hb
    obtain ⟨t, ht⟩ := tyN_of hb
    exact ⟨x, .ty T.name, .type t, .type T.name, b, rfl, .ty _, (S1.lastV l3 l2).tyx ht, isI_kit hb ht, hk _ _ _ F1 H1 env1 q l3 (pushF2 (S1.reix' l3 l2) l3 l2 (.bl _))⟩
  · exact q.elim

/-! ### abs, int, str, len, list -/
@[simp ↓] def absOf : D → Option D
  | .int i => some (.int (if i < 0 then -i else i))
  | _ => none
theorem cd_abs {K : PySem.W.Frag} : CallD K (fun xs H Q => ∃ i, xs = [.int i] ∧ Q (.int (if i < 0 then -i else i)) H) (δ1 absOf fun _ => True) := cd1 fun F H x d y Q dv _ e k => by
  cases dv <;> simp only [absOf, reduceCtorEq, Option.some.injEq] at e
  subst e
  exact ⟨_, rfl, k _ (.int _)⟩
@[simp ↓] def intOf : D → Option D
  | .int i => some (.int i)
  | .bl b => some (.int (if b then 1 else 0))
  | _ => none
theorem cd_int {K : PySem.W.Frag} : CallD K (fun xs H Q => (∃ i, xs = [.int i] ∧ Q (.int i) H) ∨ ∃ k, xs = [.bl k] ∧ Q (.int (if k then 1 else 0)) H) (δ1 intOf fun _ => True) := cd1 fun F H x d y Q dv _ e k => by
  cases dv <;> simp only [intOf, reduceCtorEq, Option.some.injEq] at e <;> subst e
  · exact .inr ⟨_, rfl, k _ (.int _)⟩
  · exact .inl ⟨_, rfl, k _ (.int _)⟩
@[simp ↓] def strOf : D → Option D
  | .int i => some (.str (toString i : PySem.Str))
  | _ => none
@[simp ↓] def strC : D → Prop
  | .int i => i.natAbs.log2 < 1920
  | _ => True
theorem cd_str {K : PySem.W.Frag} : CallD K (fun xs H Q => ∃ i, xs = [.int i] ∧ i.natAbs.log2 < 1920 ∧ Q (.str (toString i)) H) (δ1 strOf strC) := cd1 fun F H x d y Q dv hc e k => by
  cases dv <;> simp only [strOf, reduceCtorEq, Option.some.injEq] at e
  subst e
  exact ⟨_, rfl, hc, k _ (.str _)⟩
def rLen (K : PySem.W.Frag) : List V → Hp → VK → Prop := fun xs H Q => (∃ p ys, xs = [.ref p] ∧ (SqL K H p ys ∨ SqT K H p ys) ∧ Q (.int ys.length) H) ∨ (∃ z, xs = [.str z] ∧ z.length ≤ sizeLine ∧ Q (.int z.length) H) ∨ ∃ a kvs, xs = [V.ref a] ∧ H a = some (.dK kvs) ∧ Q (.int kvs.length) H
theorem call_rLen : CallR X (.builtin "len") (rLen X.K) := call_len_seq.or (call_len_str.or call_lenD)
theorem cd_len {K : PySem.W.Frag} : CallD K (rLen K) (δ1 lenOf lenC) := cd1 fun F H x d y Q dv hc e k => by
  cases dv <;> simp only [lenOf, reduceCtorEq, Option.some.injEq] at e <;> subst e
  · exact .inr (.inl ⟨_, rfl, hc, k _ (.int _)⟩)
  · rename_i xs ds hs ha
    exact .inl ⟨_, _, rfl, .inr hs, by rw [ha.length]; exact k _ (.int _)⟩
  · rename_i ns hs
    refine .inl ⟨_, _, rfl, .inl hs, ?_⟩
    have := k (.int ns.length) (.int _)
    simpa using this
  · rename_i xs ds hs ha
    exact .inl ⟨_, _, rfl, .inl (.inl (.inl hs)), by rw [ha.length]; exact k _ (.int _)⟩
  · rename_i kv kd hs hk ha
    refine .inr (.inr ⟨_, _, rfl, hs, ?_⟩)
    have := congrArg List.length hk
    rw [List.length_map, List.length_map] at this
    rw [this]; exact k _ (.int _)
/-- list(x) -/
@[simp ↓] def δList : DRA := fun ds R => match ds with
  | [(.scr ns, _)] => R (.lst (ns.map D.int)) (.own (.o .f))
  | [(.lst xs, md)] => (md = .frz ∨ md = .view (.o .f) ∨ md = .own (.o .f) ∨ flatA xs = true) ∧ R (.lst xs) (.own (.o .f))
  | [(.tup xs, md)] => (md = .frz ∨ flatA xs = true) ∧ R (.lst xs) (.own (.o .f))
  | _ => False
theorem dvA_ints {K : PySem.W.Frag} {F : Hp} : ∀ ns : List Int, DvA K F (ns.map V.int) (ns.map D.int)
  | [] => .nil
  | n :: ns => .cons (.int n) (dvA_ints ns)
theorem cd_list {K : PySem.W.Frag} : CallD K (fun xs H Q => ∃ p ys, xs = [.ref p] ∧ (SqL K H p ys ∨ SqT K H p ys) ∧ ∀ l, H l = none → Q (.ref l) (upd H l (.lst ys))) δList := by
  intro G F0 F H vs es xs ds Q R hl ln S hδ hk
  have one : ∀ {d : D} {md : Md}, ds = [(d, md)] → ∃ x, xs = [x] ∧ Dv K H x d ∧ ∃ as, Rt K G F H x d md as := fun {d md} e => by
    subst e
    obtain ⟨x, rfl⟩ : ∃ x, xs = [x] := by
      cases xs with
      | nil => simp at ln
      | cons x t => cases t with
        | nil => exact ⟨x, rfl⟩
        | cons _ _ => simp at ln
    obtain ⟨v, as, e, r⟩ := S.getR (i := es.length) (d := d) (md := md) (by simp)
    rw [← hl] at e; simp at e; subst e
    exact ⟨x, rfl, r.dv S.fh S.gh, as, r⟩
  have S1 := S.drop hl
  unfold δList at hδ
  split at hδ
  · rename_i ns md
    obtain ⟨x, rfl, dv, as, r⟩ := one rfl
    cases dv with
    | scr h => exact ⟨_, _, rfl, .inl h, fun l hl' => hk _ _ _ F _ hδ (push_newL S1 hl hl' (dvA_ints ns))⟩
  · rename_i ys md
    obtain ⟨x, rfl, dv, as, r⟩ := one rfl
    obtain ⟨hm, hδ⟩ := hδ
    have fin : ∀ {a : Addr} {zs : List V}, x = .ref a → H a = some (.lst zs) → DvA K F zs ys → ∃ p zs', [x] = [V.ref p] ∧ (SqL K H p zs' ∨ SqT K H p zs') ∧ ∀ l, H l = none → Q (.ref l) (upd H l (.lst zs')) := fun {a zs} e h1 h2 =>
      ⟨a, zs, by rw [e], .inl (.inl (.inl h1)), fun l hl' => hk _ _ _ F _ hδ (push_newL S1 hl hl' h2)⟩
    rcases hm with rfl | rfl | rfl | hf
    · cases r.1 with
      | lst hs hA => exact fin rfl (S.fh _ _ hs) hA
    · obtain ⟨bs, ow⟩ := r.1
      cases ow with
      | lst hs hO => exact fin rfl hs (owL_f hO).2
    · have r' : Ow K F H (.o .f) x (.lst ys) as := r
      cases r' with
      | lst hs hO => exact fin rfl hs (owL_f hO).2
    · cases dv with
      | lst hs hA => exact fin rfl hs (hA.flat_of S.tu hf)
  · rename_i ys md
    obtain ⟨x, rfl, dv, as, r⟩ := one rfl
    obtain ⟨hm, hδ⟩ := hδ
    have fin : ∀ {a : Addr} {zs : List V}, x = .ref a → SqT K H a zs → DvA K F zs ys → ∃ p zs', [x] = [V.ref p] ∧ (SqL K H p zs' ∨ SqT K H p zs') ∧ ∀ l, H l = none → Q (.ref l) (upd H l (.lst zs')) := fun {a zs} e h1 h2 =>
      ⟨a, zs, by rw [e], .inr h1, fun l hl' => hk _ _ _ F _ hδ (push_newL S1 hl hl' h2)⟩
    rcases hm with rfl | hf
    · cases r.1 with
      | tup hs hA => exact fin rfl (same_seqT S.fh hs) hA
    · cases dv with
      | tup hs hA => exact fin rfl hs (hA.flat_of S.tu hf)
  · exact hδ.elim
end
end DL
/-! D layer, part 12: targets of all kinds; what is changed by place; try. -/
namespace DL
open PySem PySem.Spec PyProof.Rows L2

section
variable {K : PySem.W.Frag} {G F0 F H : Hp}
theorem StD.pushAll : ∀ {xs : List V} {ds : List (D × Md)} {a : List (Option V)} {b : Env}, StD K G F0 F H a b → a.length = b.length → xs.length = ds.length → (∀ (i : Nat) (x : V) (d : D) (md : Md), xs[i]? = some x → ds[i]? = some (d, md) → Rt K G F H x d md []) →
    StD K G F0 F H (a ++ xs.map some) (b ++ ds.map some)
  | [], [], a, b, S, _, _, _ => by simpa using S
  | [], _ :: _, _, _, _, _, h, _ => by simp at h
  | _ :: _, [], _, _, _, _, h, _ => by simp at h
  | x :: xs, (d, md) :: ds, a, b, S, hl, ln, h => by
    have := StD.pushAll (xs := xs) (ds := ds) (S.push0 hl (h 0 x d md rfl rfl)) (by simp [hl]) (by simpa using ln) fun i x' d' md' h1 h2 => h (i + 1) x' d' md' (by simpa using h1) (by simpa using h2)
    simpa [List.append_assoc] using this
/-- the root ahead of the others goes behind them -/
theorem StD.rot {σ tv xs : List (Option V)} {env te ds : Env} {x : Option V} {e : Slot} (S : StD K G F0 F H (σ ++ (tv ++ x :: xs)) (env ++ (te ++ e :: ds))) (l1 : env.length = σ.length) (l2 : tv.length = te.length) (l3 : xs.length = ds.length) :
    StD K G F0 F H (σ ++ ((tv ++ xs) ++ [x])) (env ++ ((te ++ ds) ++ [e])) := by
  have g : ∀ {α : Type} (p q r : List α) (y : α) (j : Nat), (p ++ ((q ++ r) ++ [y]))[j]? = if j < p.length + q.length then (p ++ q)[j]? else if j < p.length + q.length + r.length then r[j - (p.length + q.length)]? else if j = p.length + q.length + r.length then some y else none := fun p q r y j => by
    by_cases h1 : j < p.length + q.length
    · rw [if_pos h1, List.append_assoc q, assoc3, List.getElem?_append_left (by simp; omega)]
    · rw [if_neg h1]
      by_cases h2 : j < p.length + q.length + r.length
      · rw [if_pos h2, List.append_assoc q, assoc3, List.getElem?_append_right (by simp; omega), List.getElem?_append_left (by simp; omega)]
        simp
      · rw [if_neg h2]
        by_cases h3 : j = p.length + q.length + r.length
        · rw [if_pos h3, h3, get_snoc (by simp; omega)]
        · rw [if_neg h3, List.getElem?_eq_none (by simp; omega)]
  have g2 : ∀ {α : Type} (p q r : List α) (y : α) (j : Nat), (p ++ (q ++ y :: r))[j]? = if j < p.length + q.length then (p ++ q)[j]? else if j = p.length + q.length then some y else r[j - (p.length + q.length + 1)]? := fun p q r y j => by
    by_cases h1 : j < p.length + q.length
    · rw [if_pos h1, assoc3, List.getElem?_append_left (by simp; omega)]
    · rw [if_neg h1]
      by_cases h3 : j = p.length + q.length
      · rw [if_pos h3, h3, assoc3, List.getElem?_append_right (by simp)]; simp
      · rw [if_neg h3, assoc3, List.getElem?_append_right (by simp; omega)]
        have : j - (p ++ q).length = (j - (p.length + q.length + 1)) + 1 := by simp; omega
        rw [this]; simp
  refine S.reix (fun j => if j < env.length + te.length then j else if j < env.length + te.length + ds.length then j + 1 else env.length + te.length) (fun i j hi hj e => ?_) fun j p e => ?_
  · obtain ⟨p, hp⟩ := hi
    obtain ⟨p', hp'⟩ := hj
    have b1 := (List.getElem?_eq_some_iff.mp hp).1
    have b2 := (List.getElem?_eq_some_iff.mp hp').1
    simp at b1 b2
    split at e
    · split at e
      · exact e
      · split at e <;> omega
    · split at e
      · split at e
        · omega
        · split at e <;> omega
      · split at e
        · omega
        · split at e <;> omega
  · rw [g env te ds] at e
    rw [g2 env te ds, g2 σ tv xs, g σ tv xs]
    by_cases h1 : j < env.length + te.length
    · rw [if_pos h1] at e
      have h1' : j < σ.length + tv.length := by omega
      rw [if_pos h1, if_pos h1, if_pos h1', if_pos h1']
      exact ⟨e, rfl⟩
    · rw [if_neg h1] at e
      have h1' : ¬ j < σ.length + tv.length := by omega
      by_cases h2 : j < env.length + te.length + ds.length
      · rw [if_pos h2] at e
        have h2' : j < σ.length + tv.length + xs.length := by omega
        have a1 : ¬ (j + 1 < env.length + te.length) := by omega
        have a2 : ¬ (j + 1 = env.length + te.length) := by omega
        have a3 : ¬ (j + 1 < σ.length + tv.length) := by omega
        have a4 : ¬ (j + 1 = σ.length + tv.length) := by omega
        simp only [h1, h2, a1, a2, a3, a4, h1', h2', if_true, if_false]
        refine ⟨?_, ?_⟩
        · rw [show j + 1 - (env.length + te.length + 1) = j - (env.length + te.length) by omega]; exact e
        · rw [show j + 1 - (σ.length + tv.length + 1) = j - (σ.length + tv.length) by omega]
      · rw [if_neg h2] at e
        have h2' : ¬ j < σ.length + tv.length + xs.length := by omega
        split at e
        · rename_i h3
          cases e
          have a1 : ¬ (env.length + te.length < env.length + te.length) := by omega
          have a3 : ¬ (env.length + te.length < σ.length + tv.length) := by omega
          have a4 : env.length + te.length = σ.length + tv.length := by omega
          have a5 : j = σ.length + tv.length + xs.length := by omega
          rw [if_neg h1, if_neg h2, if_neg a1, if_pos rfl, if_neg a3, if_pos a4, if_neg h1', if_neg h2', if_pos a5]
          exact ⟨rfl, rfl⟩
        · cases e
end

abbrev DGs := List (D × Md) → Env → (Env → Prop) → DX → Prop
def tDGs (K : PySem.W.Frag) (W : WX) (ws : List Nat) (m : DGs) : TGs := fun xs σ H Q => ∃ (G F0 F : Hp) (env : Env) (tv : List (Option V)) (te : Env) (ds : List (D × Md)) (R : Env → Prop) (Ex : DX),
  StD K G F0 F H (σ ++ (tv ++ xs.map some)) (env ++ (te ++ ds.map some)) ∧ env.length = σ.length ∧ tv.length = te.length ∧ xs.length = ds.length ∧ NoView te ∧ (∀ p ∈ ds, p.2.noview = true) ∧ WOk K W G F0 tv te Ex ∧ m ds env R Ex ∧
  ∀ (σ' : L2.St) (F' H' : Hp) (env' : Env), R env' → env'.length = σ'.length → σ'.length = σ.length → (∀ j, j ∉ ws → σ'[j]? = σ[j]?) → StD K G F0 F' H' (σ' ++ tv) (env' ++ te) → Q σ' H'
def PDGs (X : Cx) (W : WX) (ws : List Nat) (tgs : List Expr) (m : DGs) : Prop := PGs X tgs (tDGs X.K W ws m)
theorem PGs.imp {X : Cx} {ts : List Expr} {t t' : TGs} (h : PGs X ts t) (k : ∀ v σ H Q, t' v σ H Q → t v σ H Q) : PGs X ts t' := ⟨fun pins s σ H v u Q I r q => h.run pins s σ H v u Q I r (k v σ H Q q)⟩
@[simp ↓] def dgNil : DGs := fun ds env R _ => ds = [] ∧ R env
@[simp ↓] def dgCons (g : DG) (gs : DGs) : DGs := fun ds env R Ex => match ds with
  | (d, md) :: r => g d md env (fun e1 => gs r e1 R Ex) Ex
  | [] => False
section
variable {X : Cx} {W : WX} {p p1 p2 : Bool} {pos : Pos} {g : DG} {gs : DGs} {ws ws2 : List Nat}
theorem pdgs_nil : PDGs X W [] [] dgNil := PGs.imp pgs_nil fun xs σ H Q ⟨G, F0, F, env, tv, te, ds, R, Ex, S, l1, l2, ln, nv, nd, wo, ⟨e, hm⟩, hk⟩ => by
  subst e
  have : xs = [] := by cases xs with
    | nil => rfl
    | cons _ _ => simp at ln
  subst this
  exact ⟨rfl, hk σ F H env hm l1 rfl (fun _ _ => rfl) (by simpa using S)⟩
theorem pdgs_cons {e : Expr} {es : List Expr} (h1 : PDG X W ws e g) (h2 : PDGs X W ws2 es gs) (hs : (assignEach (e :: es) X.env).map (·.2) = assign e X.env :: (assignEach es X.env).map (·.2) := by rfl) : PDGs X W (ws ++ ws2) (e :: es) (dgCons g gs) := by
  refine PGs.imp (pgs_cons h1 h2 hs) fun xs σ H Q ⟨G, F0, F, env, tv, te, ds, R, Ex, S, l1, l2, ln, nv, nd, wo, hm, hk⟩ => ?_
  unfold dgCons at hm
  split at hm
  · rename_i d md r
    cases xs with
    | nil => simp at ln
    | cons x xs =>
      have ln' : xs.length = r.length := by simpa using ln
      refine ⟨x, xs, rfl, G, F0, F, env, tv ++ xs.map some, te ++ r.map some, d, md, _, Ex, StD.rot S l1 l2 (by simp [ln']), l1, by simp [l2, ln'], fun q hq d' md' e' => ?_, wo.more _ _, hm, fun σ1 F1 H1 env1 q l3 l4 sw S1 => ?_⟩
      · rcases List.mem_append.mp hq with hq | hq
        · exact nv q hq d' md' e'
        · obtain ⟨z, hz, ez⟩ := List.mem_map.mp hq
          rw [e'] at ez; cases ez
          exact nd _ (List.mem_cons_of_mem _ hz)
      · exact ⟨G, F0, F1, env1, tv, te, r, R, Ex, S1, l3, l2, ln', nv, fun p hp => nd p (List.mem_cons_of_mem _ hp), wo, q, fun σ' F' H' env' q' l5 l6 sw' S' =>
          hk σ' F' H' env' q' l5 (l6.trans l4) (fun j hj => (sw' j fun z => hj (List.mem_append_right _ z)).trans (sw j fun z => hj (List.mem_append_left _ z))) S'⟩
  · exact hm.elim
@[simp ↓] def tupItems (d : D) (md : Md) : Option (List (D × Md)) := match d with
  | .tup ds => if flatA ds = true then some (ds.map (·, .frz)) else match md with
    | .frz => some (ds.map (·, .frz))
    | .lent => some (ds.map (·, .lent))
    | _ => none
  | _ => none
@[simp ↓] def dgTup (n : Nat) (gs : DGs) : DG := fun d md env R Ex => match tupItems d md with
  | some ds => ds.length = n ∧ gs ds env R Ex
  | none => False
@[simp ↓] def dgLst (n : Nat) (gs : DGs) : DG := fun d md env R Ex => match seqItems d md with
  | some ds => ds.length = n ∧ gs ds env R Ex
  | none => False
theorem flatA_mem : ∀ {ds : List D}, flatA ds = true → ∀ d ∈ ds, flat d = true
  | [], _, _, h => absurd h List.not_mem_nil
  | x :: xs, e, d, h => by
    rw [flatA, Bool.and_eq_true] at e
    rcases List.mem_cons.mp h with rfl | h
    · exact e.1
    · exact flatA_mem e.2 d h
theorem tup_items {K : PySem.W.Frag} {G F0 F H : Hp} {vs : List (Option V)} {es : Env} (S : StD K G F0 F H vs es) {x : V} {d : D} {md : Md} {as : List Addr} (r : Rt K G F H x d md as) {ds : List (D × Md)} (h : tupItems d md = some ds) :
    ∃ a xs, x = .ref a ∧ SqT K H a xs ∧ xs.length = ds.length ∧ (∀ p ∈ ds, p.2.noview = true) ∧ ∀ (i : Nat) (x : V) (d : D) (md : Md), xs[i]? = some x → ds[i]? = some (d, md) → Rt K G F H x d md [] := by
  unfold tupItems at h
  split at h
  · rename_i ds0
    have fin : ∀ (Z : Hp) (md' : Md), Same Z H → Dv K Z x (.tup ds0) → md'.noview = true → ds = ds0.map (·, md') → (∀ x d, d ∈ ds0 → Dv K Z x d → Rt K G F H x d md' []) →
        ∃ a xs, x = .ref a ∧ SqT K H a xs ∧ xs.length = ds.length ∧ (∀ p ∈ ds, p.2.noview = true) ∧ ∀ (i : Nat) (x : V) (d : D) (md : Md), xs[i]? = some x → ds[i]? = some (d, md) → Rt K G F H x d md [] := fun Z md' z dv nv e k => by
      cases dv with
      | tup hs hA =>
        refine ⟨_, _, rfl, same_seqT z hs, by rw [e, List.length_map, hA.length], fun p hp => ?_, fun i x d md h1 h2 => ?_⟩
        · rw [e] at hp
          obtain ⟨q, _, rfl⟩ := List.mem_map.mp hp
          exact nv
        · rw [e, List.getElem?_map] at h2
          obtain ⟨d', hd, dv⟩ := hA.getV h1
          rw [hd] at h2; cases h2
          exact k _ _ (List.mem_of_getElem? hd) dv
    split at h
    · rename_i hf
      cases h
      exact fin H .frz (fun _ _ q => q) (r.dv S.fh S.gh) rfl rfl fun x d hd dv => ⟨dv.flat_of S.tu (flatA_mem hf d hd), rfl⟩
    · split at h
      · cases h
        exact fin F .frz S.fh r.1 rfl rfl fun x d _ dv => ⟨dv, rfl⟩
      · cases h
        exact fin G .lent S.gh r.1 rfl rfl fun x d _ dv => ⟨dv, rfl⟩
      · cases h
  · cases h
theorem pdg_tup {es : List Expr} {k n : Nat} (hc : X.calm = true) (h : PDGs X W ws es gs) (hn : (assignEach es X.env).length = n := by rfl) (hst : (assignEach es X.env).findIdx? (·.1) = none := by rfl) : PDG X W ws (.Tuple es k pos) (dgTup n gs) := by
  refine PG.imp (pg_tup hc h hn hst) fun v σ H Q ⟨G, F0, F, env, tv, te, d, md, R, Ex, S, l1, l2, nv, wo, hm, hk⟩ => ?_
  unfold dgTup at hm
  split at hm
  · rename_i ds hds
    obtain ⟨hl, hm⟩ := hm
    obtain ⟨as, r⟩ := S.last l1 l2
    obtain ⟨a, xs, e1, sq, ln, nd, hr⟩ := tup_items S r hds
    refine ⟨a, xs, e1, sq, ln.trans hl, G, F0, F, env, tv, te, ds, R, Ex, ?_, l1, l2, ln, nv, nd, wo, hm, hk⟩
    have := StD.pushAll (S.reix' l1 l2) (by simp [l1, l2]) ln hr
    simpa [List.append_assoc] using this
  · exact hm.elim
theorem seq_items {K : PySem.W.Frag} {G F0 F H : Hp} {vs : List (Option V)} {es : Env} (S : StD K G F0 F H vs es) {x : V} {d : D} {md : Md} {as : List Addr} (r : Rt K G F H x d md as) {ds : List (D × Md)} (h : seqItems d md = some ds) :
    ∃ a xs, x = .ref a ∧ H a = some (.lst xs) ∧ xs.length = ds.length ∧ (∀ p ∈ ds, p.2.noview = true) ∧ ∀ (i : Nat) (x : V) (d : D) (md : Md), xs[i]? = some x → ds[i]? = some (d, md) → Rt K G F H x d md [] := by
  have fin : ∀ (Z : Hp) (md' : Md) (ds0 : List D) (a : Addr) (xs : List V), x = .ref a → H a = some (.lst xs) → DvA K Z xs ds0 → md'.noview = true → ds = ds0.map (·, md') → (∀ x d, Dv K Z x d → Rt K G F H x d md' []) →
      ∃ a xs, x = .ref a ∧ H a = some (.lst xs) ∧ xs.length = ds.length ∧ (∀ p ∈ ds, p.2.noview = true) ∧ ∀ (i : Nat) (x : V) (d : D) (md : Md), xs[i]? = some x → ds[i]? = some (d, md) → Rt K G F H x d md [] := fun Z md' ds0 a xs ex hs hA nv e k => by
    refine ⟨a, xs, ex, hs, by rw [e, List.length_map, hA.length], fun p hp => ?_, fun i x d md h1 h2 => ?_⟩
    · rw [e] at hp
      obtain ⟨q, _, rfl⟩ := List.mem_map.mp hp
      exact nv
    · rw [e, List.getElem?_map] at h2
      obtain ⟨d', hd, dv⟩ := hA.getV h1
      rw [hd] at h2; cases h2
      exact k _ _ dv
  unfold seqItems at h
  split at h
  · cases h
    cases r.1 with
    | lst hs hA => exact fin F .frz _ _ _ rfl (S.fh _ _ hs) hA rfl rfl fun x d q => ⟨q, rfl⟩
  · cases h
    cases r.1 with
    | lst hs hA => exact fin G .lent _ _ _ rfl (S.gh _ _ hs) hA rfl rfl fun x d q => ⟨q, rfl⟩
  · rename_i ds0
    cases h
    have r' : Ow K F H (.o .f) x (.lst ds0) as := r
    cases r' with
    | lst hs hO => exact fin F .frz _ _ _ rfl hs (owL_f hO).2 rfl rfl fun x d q => ⟨q, rfl⟩
  · cases h
theorem pdg_lst {es : List Expr} {k n : Nat} (hc : X.calm = true) (h : PDGs X W ws es gs) (hn : (assignEach es X.env).length = n := by rfl) (hst : (assignEach es X.env).findIdx? (·.1) = none := by rfl) : PDG X W ws (.Tuple es k pos) (dgLst n gs) := by
  refine PG.imp (pg_lst hc h hn hst) fun v σ H Q ⟨G, F0, F, env, tv, te, d, md, R, Ex, S, l1, l2, nv, wo, hm, hk⟩ => ?_
  unfold dgLst at hm
  split at hm
  · rename_i ds hds
    obtain ⟨hl, hm⟩ := hm
    obtain ⟨as, r⟩ := S.last l1 l2
    obtain ⟨a, xs, e1, hs, ln, nd, hr⟩ := seq_items S r hds
    refine ⟨a, xs, e1, .inl (.inl hs), ln.trans hl, G, F0, F, env, tv, te, ds, R, Ex, ?_, l1, l2, ln, nv, nd, wo, hm, hk⟩
    have := StD.pushAll (S.reix' l1 l2) (by simp [l1, l2]) ln hr
    simpa [List.append_assoc] using this
  · exact hm.elim
end
end DL
/-! D layer, part 13: pairs stored, lists changed by place, append, try. -/
namespace DL
open PySem PySem.Spec PyProof.Rows L2

section
variable {X : Cx} {W : WX} {p p1 p2 : Bool} {pos : Pos}
/-- two roots behind the others go into the slots i, j -/
theorem StD.store2 {K : PySem.W.Frag} {G F0 F H : Hp} {σ : L2.St} {env te : Env} {tv : List (Option V)} {v w : V} {d1 d2 : D} {m1 m2 : Md} {i j : Nat} (S : StD K G F0 F H (σ ++ (tv ++ [some v, some w])) (env ++ (te ++ [some (d1, m1), some (d2, m2)]))) (l1 : env.length = σ.length) (l2 : tv.length = te.length)
    (hi : i < env.length) (hj : j < env.length) : StD K G F0 F H ((σ.set i (some v)).set j (some w) ++ tv) ((env.set i (some (d1, m1))).set j (some (d2, m2)) ++ te) := by
  have S1 : StD K G F0 F H (σ ++ (tv ++ [some w] ++ [some v])) (env ++ (te ++ [some (d2, m2)] ++ [some (d1, m1)])) := by
    have := StD.rot (xs := [some w]) (ds := [some (d2, m2)]) S l1 l2 rfl
    simpa [List.append_assoc] using this
  have S2 := S1.store l1 (by simp [l2]) hi
  exact StD.store (σ := σ.set i (some v)) (env := env.set i (some (d1, m1))) S2 (by simp [l1]) l2 (by simpa using hj)
def dPar (i j : Nat) (m : DA) : DS := fun env E => m env (fun ds e => match ds with
  | [(d1, m1), (d2, m2)] => notBrw e i ∧ notBrw e j ∧ match keepMd d1 m1, keepMd d2 m2 with
    | some a, some b => E.nx ((e.set i (some (d1, a))).set j (some (d2, b)))
    | _, _ => False
  | _ => False) E.ex
theorem pds_par {i j : Nat} {x y : Str} {a b : Expr} {m : DA} {px py pt : Pos} {kt k2 : Nat} {pt2 : Pos} (hc : X.calm = true) (hN : X.N.Nodup) (hi : X.N[i]? = some x) (hj : X.N[j]? = some y) (hij : i ≠ j)
    (hx : X.env.scope.names.lookup x = some .local) (hy : X.env.scope.names.lookup y = some .local) (ha : PDA X W p [a, b] m)
    (hw : swappedStores [.Tuple [.Name x px, .Name y py] kt pt] (.Tuple [a, b] k2 pt2) X.env = pure (some [x, y]) := by rfl)
    (hs : swapsWithSole [.Tuple [.Name x px, .Name y py] kt pt] (.Tuple [a, b] k2 pt2) pos.line X.env = pure false := by rfl) :
    PDS X W (.Assign [.Tuple [.Name x px, .Name y py] kt pt] (.Tuple [a, b] k2 pt2) pos) (dPar i j m) := by
  refine pds_of (ps_par hc hN hi hj hij hx hy ha hw hs) fun G F0 F H σ env tv te E D S l1 l2 nv wo hm k1 k2 k3 k4 => ?_
  refine ⟨G, F0, F, env, tv, te, _, E.ex, S, l1, l2, .inr nv, wo, hm, fun xs ds F1 H1 env1 q l3 ln S1 => ?_⟩
  split at q
  · rename_i d1 m1 d2 m2
    obtain ⟨n1, n2, q⟩ := q
    split at q
    · rename_i a' b' e1 e2
      obtain ⟨v, w, rfl⟩ : ∃ v w, xs = [v, w] := by
        cases xs with
        | nil => simp at ln
        | cons v t => cases t with
          | nil => simp at ln
          | cons w t => cases t with
            | nil => exact ⟨v, w, rfl⟩
            | cons _ _ => simp at ln
      refine ⟨v, w, rfl, ?_⟩
      -- keep both
      have S1' : StD X.K G F0 F1 H1 (σ ++ (tv ++ [some v] ++ [some w])) (env1 ++ (te ++ [some (d1, m1)] ++ [some (d2, m2)])) := by simpa [List.append_assoc] using S1
      obtain ⟨F2, S2⟩ := S1'.lastKeep l3 (by simp [l2]) e2
      have S3 : StD X.K G F0 F2 H1 (σ ++ (tv ++ [some w] ++ [some v])) (env1 ++ (te ++ [some (d2, b')] ++ [some (d1, m1)])) := by
        have := StD.rot (xs := [some w]) (ds := [some (d2, b')]) (show StD X.K G F0 F2 H1 (σ ++ (tv ++ some v :: [some w])) (env1 ++ (te ++ some (d1, m1) :: [some (d2, b')])) by simpa [List.append_assoc] using S2) l3 l2 rfl
        simpa [List.append_assoc] using this
      obtain ⟨F3, S4⟩ := S3.lastKeep l3 (by simp [l2]) e1
      have S5 := S4.store l3 (by simp [l2]) (notBrw_lt n1)
      have S6 := StD.store (σ := σ.set i (some v)) (env := env1.set i (some (d1, a'))) S5 (by simp [l3]) l2 (by simpa using notBrw_lt n2)
      exact k1 _ F3 H1 _ q (by simp [l3]) (by simp) S6
    · exact q.elim
  · exact q.elim

/-! ### a list of a slot, changed -/
def ownL (md : Md) : Prop := md = .own (.o .f) ∨ ∃ v0, md = .brw (.o .f) v0
/-- the list of slot i -/
def lstAt (e : Env) (i : Nat) (k : List D → Md → Prop) : Prop := match e[i]? with
  | some (some (.lst ds, .own (.o .f))) => k ds (.own (.o .f))
  | some (some (.lst ds, .brw (.o .f) v)) => k ds (.brw (.o .f) v)
  | _ => False
theorem lstAt_get {e : Env} {i : Nat} {k : List D → Md → Prop} (h : lstAt e i k) : ∃ ds md, e[i]? = some (some (.lst ds, md)) ∧ ownL md ∧ k ds md := by
  unfold lstAt at h
  split at h
  · rename_i ds q; exact ⟨ds, _, q, .inl rfl, h⟩
  · rename_i ds v q; exact ⟨ds, _, q, .inr ⟨v, rfl⟩, h⟩
  · exact h.elim
theorem list_root {K : PySem.W.Frag} {G F0 F H : Hp} {σ : L2.St} {env te : Env} {tv : List (Option V)} {i : Nat} {ds : List D} {md : Md} (S : StD K G F0 F H (σ ++ tv) (env ++ te)) (l1 : env.length = σ.length) (e : env[i]? = some (some (.lst ds, md))) (o : ownL md) :
    ∃ a xs, σ[i]? = some (some (.ref a)) ∧ H a = some (.lst xs) ∧ DvA K F xs ds := by
  obtain ⟨v, as, h, r⟩ := slot_root S l1 e
  have ow : Ow K F H (.o .f) v (.lst ds) as := by
    rcases o with rfl | ⟨v0, rfl⟩
    · exact r
    · exact r.2
  cases ow with
  | lst hs hO => exact ⟨_, _, h, hs, (owL_f hO).2⟩
theorem nv_all {env te : Env} (h1 : noviewE env = true) (h2 : NoView te) : ∀ (j : Nat) (dj : D) (mj : Md), (env ++ te)[j]? = some (some (dj, mj)) → mj.noview = true := fun j dj mj e => by
  by_cases hj : j < env.length
  · rw [List.getElem?_append_left hj] at e; exact noviewE_get h1 e
  · rw [List.getElem?_append_right (by omega)] at e
    exact h2 _ (List.mem_of_getElem? e) dj mj rfl
def dgSub (i : Nat) (pi : Bool) (mi : DE) : DG := fun d md env R Ex => viewOk pi md ∧ capB d md = true ∧ (∃ p, env[i]? = some (some p)) ∧ mi env (fun di _ e => noviewE e = true ∧ match di with
  | .int k => lstAt e i fun ds mo => match ixN ds.length k with
    | some j => R (e.set i (some (.lst (ds.set j d), mo)))
    | none => False
  | _ => False) Ex
theorem pdg_sub (i : Nat) {x : Str} {px : Pos} {idx : Expr} {mi : DE} (hN : X.N[i]? = some x) (hv : Vis X.env.scope x) (hd : (x == ("__debug__" : Str)) = false) (hcd : (x == ("__classdict__" : Str)) = false) (hi : PD X W p idx mi)
    (ha : ∀ v, assign (.Subscript (.Name x px) idx pos) X.env v = (do
      let ov ← holding [v] (eval (.Name x px) X.env)
      let iv ← holding [v, ov] (eval idx X.env)
      standAt pos
      holding [v, ov, iv] (setItem ov iv v)
      release [v, ov, iv] []) := by intro _; rfl) : PDG X W [] (.Subscript (.Name x px) idx pos) (dgSub i p mi) := by
  refine PG.imp (pg_sub (pe_var hN hv hd hcd) hi set_list ha) fun v σ H Q ⟨G, F0, F, env, tv, te, d, md, R, Ex, S, l1, l2, nv, wo, ⟨vo, hc, ⟨⟨d9, md9⟩, e9⟩, hm⟩, hk⟩ => ?_
  have nv2 : p = true ∨ NoView (te ++ [some (d, md)]) := by
    rcases vo with vo | vo
    · exact .inl vo
    · exact .inr (nv.snoc vo)
  -- the object's value is the slot's, whatever the index does
  have key : ∀ (u : V) (d' : D) (md' : Md) (F1 H1 : Hp) (env1 : Env), (noviewE env1 = true ∧ match d' with
      | .int k => lstAt env1 i fun ds mo => match ixN ds.length k with
        | some j => R (env1.set i (some (.lst (ds.set j d), mo)))
        | none => False
      | _ => False) → env1.length = σ.length → StD X.K G F0 F1 H1 (σ ++ (tv ++ [some v] ++ [some u])) (env1 ++ (te ++ [some (d, md)] ++ [some (d', md')])) →
      ∀ o, σ[i]? = some (some o) → rSetL o u v H1 fun H3 => Q σ H3 := fun u d' md' F1 H1 env1 ⟨hnv, q⟩ l3 S1 o ho => by
    have du := S1.lastV l3 (by simp [l2])
    split at q
    · cases du
      obtain ⟨ds, mo, e, own, q⟩ := lstAt_get q
      split at q
      · rename_i j hj
        -- the value is kept, then dropped
        have S2 := S1.reix' l3 (by simp [l2])
        have S2' : StD X.K G F0 F1 H1 ((σ ++ tv) ++ [some v]) ((env1 ++ te) ++ [some (d, md)]) := by simpa [List.append_assoc] using S2
        obtain ⟨F2, _, S3, dv⟩ := S2'.capLast (by simp [l3, l2]) hc
        obtain ⟨a, xs, ha', hH, hA⟩ := list_root S3 l3 e own
        rw [ha'] at ho; cases ho
        refine ⟨a, xs, _, j, rfl, rfl, hH, by rw [hA.length]; exact hj, ?_⟩
        have hil : i < env1.length := (List.getElem?_eq_some_iff.mp e).1
        have S4 := S3.mutL (k := i) (ds' := ds.set j d) (xs' := xs.set j v) (nv_all hnv nv) (get_left e) own (get_left ha') hH (hA.set dv j)
        rw [set_left hil] at S4
        exact hk σ F2 _ _ q (by simp [l3]) rfl (fun _ _ => rfl) S4
      · exact q.elim
    · exact q.elim
  -- the object first
  obtain ⟨o, _, ho, _⟩ := slot_root (te := te ++ [some (d, md)]) (tv := tv ++ [some v]) S l1 e9
  refine ⟨o, ho, G, F0, F, env, tv ++ [some v], te ++ [some (d, md)], _, Ex, S, l1, by simp [l2], nv2, wo.snoc, hm, fun u d' md' F1 H1 env1 q l3 S1 => key u d' md' F1 H1 env1 q l3 S1 o ho⟩

theorem pget_list : PGet X (rIxL X.K) := by
  intro pins s σ H o i ov iv Q I ro ri h
  obtain ⟨p, xs, k, z, rfl, rfl, hq, he, q⟩ := h
  cases ro
  obtain ⟨t, rfl⟩ := ri
  obtain ⟨its, r, pl, hz⟩ := I.list hq
  obtain ⟨j, h1, h2, h3, h4, h5⟩ := atI_get he
  obtain ⟨w, ew, rw'⟩ := r.get h2
  have hl := r.length
  have hn := line63
  have fin : EP X pins σ Q w s := ⟨z, H, I, rw', q⟩
  by_cases h0 : 0 ≤ k
  · have hj : k.toNat = j := by
      rw [seqIndex_of h0 h5] at h1
      exact Option.some.inj h1
    exact wpAny_getItem_list pl.isList h0 (by omega) (by rw [hj]; simpa using ew) fin
  · have hj : (k + (its.toArray.size : Int)).toNat = j := by
      rw [seqIndex_neg (by omega) h4] at h1
      rw [List.size_toArray, ← hl]
      exact Option.some.inj h1
    exact wpAny_getItem_list_neg pl.isList (by omega) (by rw [List.size_toArray] <;> omega) (by omega) (by rw [hj]; simpa using ew) fin
/-- x[k] += e of a list of the slot i, ints -/
def dAugS (i : Nat) (g : Int → Int → Int) (mi me : DE) : DS := fun env E => (∃ p, env[i]? = some (some p)) ∧ mi env (fun di _ e1 => match di with
  | .int k => lstAt e1 i fun ds mo => match atI ds k, ixN ds.length k with
    | some (.int a), some j => me e1 (fun dv _ e2 => noviewE e2 = true ∧ match dv with
      | .int b => lstAt e2 i fun ds2 mo2 => ds2.length = ds.length ∧ E.nx (e2.set i (some (.lst (ds2.set j (.int (g a b))), mo2)))
      | _ => False) E.ex
    | _, _ => False
  | _ => False) E.ex
theorem pds_augS (i : Nat) {x : Str} {px tpos : Pos} {idx e : Expr} {mi me : DE} {op : Operator} {g : Int → Int → Int} (hN : X.N[i]? = some x) (hv : Vis X.env.scope x) (hd : (x == ("__debug__" : Str)) = false) (hcd : (x == ("__classdict__" : Str)) = false)
    (hi : PD X W p1 idx mi) (he : PD X W p2 e me) (hp : PIp X op (ipI g))
    (ha : ∀ ov iv new, augStore idx ov iv new = (do holding [new, ov, iv] (setItem ov iv new); release [new, ov, iv] []; pure .next) := by intros; rfl) : PDS X W (.AugAssign (.Subscript (.Name x px) idx tpos) op e pos) (dAugS i g mi me) := by
  refine pds_of (ps_augS (pe_var hN hv hd hcd) hi pget_list he hp set_list ha) fun G F0 F H σ env tv te E D S l1 l2 nv wo ⟨⟨⟨d9, md9⟩, e9⟩, hm⟩ k1 k2 k3 k4 => ?_
  obtain ⟨o, _, ho, _⟩ := slot_root S l1 e9
  refine ⟨o, ho, G, F0, F, env, tv, te, _, E.ex, S, l1, l2, .inr nv, wo, hm, fun u di mdi F1 H1 env1 q l3 S1 => ?_⟩
  have du := S1.lastV l3 l2
  have S2 := S1.reix' l3 l2
  split at q
  · cases du
    obtain ⟨ds, mo, e1, own, q⟩ := lstAt_get q
    split at q
    · rename_i a j h1 h2
      obtain ⟨ad, xs, ha', hH, hA⟩ := list_root S2 l3 e1 own
      rw [ho] at ha'; cases ha'
      obtain ⟨v, j', f1, f2, f3, dv⟩ := ixN_len hA h1
      cases dv
      refine ⟨ad, xs, _, _, rfl, rfl, .inl (.inl hH), f1, G, F0, F1, env1, tv, te, _, E.ex, S2, l3, l2, .inr nv, wo, q, fun w dw mdw F2 H2 env2 hh l4 S3 => ?_⟩
      obtain ⟨hnv, q2⟩ := hh
      have dw' := S3.lastV l4 l2
      have S4 := S3.reix' l4 l2
      split at q2
      · rename_i b
        cases dw'
        obtain ⟨ds2, mo2, e2, own2, q2⟩ := lstAt_get q2
        obtain ⟨ad2, xs2, ha2, hH2, hA2⟩ := list_root S4 l4 e2 own2
        rw [ho] at ha2; cases ha2
        obtain ⟨ll, q2⟩ := q2
        refine ⟨_, _, rfl, rfl, _, xs2, _, j, rfl, rfl, hH2, by rw [hA2.length, ll]; exact h2, ?_⟩
        have hil : i < env2.length := (List.getElem?_eq_some_iff.mp e2).1
        have S5 := S4.mutL (k := i) (ds' := ds2.set j (.int (g a b))) (xs' := xs2.set j (.int (g a b))) (nv_all hnv nv) (get_left e2) own2 (get_left ho) hH2 (hA2.set (.int _) j)
        rw [set_left hil] at S5
        exact k1 σ F2 _ _ q2 (by simp [l4]) rfl S5
      · exact q2.elim
    · exact q.elim
  · exact q.elim
/-- x.append(e), x the list of slot i -/
def dApp (i : Nat) (m : DA) : DE := fun env R Ex => lstAt env i (fun _ _ => True) ∧ m env (fun ds e => noviewE e = true ∧ match ds with
  | [(d, md)] => capB d md = true ∧ lstAt e i fun xs mo => xs.length < sizeLine ∧ R .non .frz (e.set i (some (.lst (xs ++ [d]), mo)))
  | _ => False) Ex
theorem pd_append (i : Nat) {x : Str} {px apos cpos : Pos} {e : Expr} {m : DA} (hN : X.N[i]? = some x) (hv : Vis X.env.scope x) (hd : (x == ("__debug__" : Str)) = false) (hcd : (x == ("__classdict__" : Str)) = false) (ha : PDA X W p [e] m)
    (hbase : attributeBase (.Name x px) "append" X.env (eval (.Name x px) X.env) = eval (.Name x px) X.env := by rfl)
    (hfew : ((backTo cpos (starEach (e :: []) X.env)).all (fun x => !x.1) && (backToKw cpos (keywordEach [] X.env)).all (fun x => x.1.isSome)
      && decide ((e :: []).length + ([] : List Keyword).length + (if ([] : List Keyword).isEmpty then 0 else 1) < 30)) = true := by rfl)
    (hline : (apos.endLine == cpos.line) = true := by rfl) (hs : starEach (e :: []) X.env = (false, eval e X.env) :: starEach [] X.env := by rfl) (hplain : (backTo cpos (starEach [] X.env)).any (·.1) = false := by rfl) :
    PD X W false (.Call (.Attribute (.Name x px) "append" apos) [e] [] cpos) (dApp i m) := by
  refine pd_of (pe_bm PySem.F.plainAttrs_list PySem.F.slot_list_append PySem.F.type_list_append mt_append (pe_var hN hv hd hcd) ha hbase hfew hline hs hplain) fun G F0 F H σ env tv te R Ex Q S l1 l2 nv wo ⟨h0, hm⟩ hk => ?_
  obtain ⟨ds0, md0, e0, own0, _⟩ := lstAt_get h0
  obtain ⟨a, xs0, ha0, hH0, _⟩ := list_root S l1 e0 own0
  refine ⟨_, ha0, .inl ⟨rfl, xs0, .inl (.inl hH0)⟩, G, F0, F, env, tv, te, _, Ex, S, l1, l2, .inr (nv.resolve_left (by decide)), wo, hm, fun vs ds F1 H1 env1 hh l3 ln S1 => ?_⟩
  obtain ⟨hnv, q⟩ := hh
  split at q
  · rename_i d md
    obtain ⟨hc, q⟩ := q
    obtain ⟨xs, mo, e1, own, hz, q⟩ := lstAt_get q
    obtain ⟨y, rfl⟩ : ∃ y, vs = [y] := by
      cases vs with
      | nil => simp at ln
      | cons v t => cases t with
        | nil => exact ⟨v, rfl⟩
        | cons _ _ => simp at ln
    have S2' : StD X.K G F0 F1 H1 ((σ ++ tv) ++ [some y]) ((env1 ++ te) ++ [some (d, md)]) := by simpa [List.append_assoc] using S1
    obtain ⟨F2, _, S3, dv⟩ := S2'.capLast (by simp [l3, l2]) hc
    obtain ⟨a', ys, ha', hH, hA⟩ := list_root S3 l3 e1 own
    rw [ha0] at ha'; cases ha'
    refine ⟨a, ys, y, rfl, rfl, hH, by rw [hA.length]; exact hz, ?_⟩
    have hil : i < env1.length := (List.getElem?_eq_some_iff.mp e1).1
    have nvt : NoView te := nv.resolve_left (by decide)
    have S4 := S3.mutL (k := i) (ds' := xs ++ [d]) (xs' := ys ++ [y]) (nv_all hnv nvt) (get_left e1) own (get_left ha0) hH (hA.append (.cons dv .nil))
    rw [set_left hil] at S4
    exact hk .non .non .frz F2 _ _ q (by simp [l3]) (pushF2 S4 (by simp [l3]) l2 .non)
  · exact q.elim
end
end DL
/-! D layer, part 14: +, try, defs with defaults, the law's end. -/
namespace DL
open PySem PySem.Spec PyProof.Rows L2

section
variable {X : Cx} {W : WX} {p p1 p2 : Bool} {pos : Pos} {a b : Expr} {ma mb : DE}
/-- a + b: ints, texts, lists, tuples -/
@[simp ↓] def δAdd : DR2 := fun x mx y my R => match x, y with
  | .int i, .int j => R (.int (i + j)) .frz
  | .str i, .str j => i.length + j.length ≤ sizeLine ∧ R (.str (i ++ j)) .frz
  | .lst xs, .lst ys => xs.length + ys.length ≤ sizeLine ∧ capI mx xs ∧ capI my ys ∧ R (.lst (xs ++ ys)) (.own (.o .f))
  | .tup xs, .tup ys => xs.length + ys.length ≤ sizeLine ∧ (mx = .frz ∨ flatA xs = true) ∧ (my = .frz ∨ flatA ys = true) ∧ R (.tup (xs ++ ys)) .frz
  | _, _ => False
where capI (md : Md) (xs : List D) : Prop := md = .frz ∨ md = .view (.o .f) ∨ md = .own (.o .f) ∨ flatA xs = true
theorem capI_root {K : PySem.W.Frag} {G F0 F H : Hp} {vs : List (Option V)} {es : Env} (S : StD K G F0 F H vs es) {x : V} {xs : List D} {md : Md} {as : List Addr} (r : Rt K G F H x (.lst xs) md as) (h : δAdd.capI md xs) : ∃ a zs, x = .ref a ∧ H a = some (.lst zs) ∧ DvA K F zs xs := by
  rcases h with rfl | rfl | rfl | hf
  · cases r.1 with
    | lst hs hA => exact ⟨_, _, rfl, S.fh _ _ hs, hA⟩
  · obtain ⟨bs, ow⟩ := r.1
    cases ow with
    | lst hs hO => exact ⟨_, _, rfl, hs, (owL_f hO).2⟩
  · have r' : Ow K F H (.o .f) x (.lst xs) as := r
    cases r' with
    | lst hs hO => exact ⟨_, _, rfl, hs, (owL_f hO).2⟩
  · cases r.dv S.fh S.gh with
    | lst hs hA => exact ⟨_, _, rfl, hs, hA.flat_of S.tu hf⟩
theorem tup_root {K : PySem.W.Frag} {G F0 F H : Hp} {vs : List (Option V)} {es : Env} (S : StD K G F0 F H vs es) {x : V} {xs : List D} {md : Md} {as : List Addr} (r : Rt K G F H x (.tup xs) md as) (h : md = .frz ∨ flatA xs = true) : Dv K F x (.tup xs) := by
  rcases h with rfl | hf
  · exact r.1
  · exact (r.dv S.fh S.gh).flat_of S.tu (by simpa [flat] using hf)
theorem StD.twoR2 {K : PySem.W.Frag} {G F0 F H : Hp} {vs : List (Option V)} {es : Env} {x y : V} {dx dy : D} {mx my : Md} (S : StD K G F0 F H (vs ++ [some x, some y]) (es ++ [some (dx, mx), some (dy, my)])) (hl : vs.length = es.length) :
    ∃ as, Rt K G F H y dy my as := by
  obtain ⟨v1, as, e1, r⟩ := S.getR (i := es.length + 1) (d := dy) (md := my) (by simp)
  rw [← hl] at e1
  simp at e1
  subst e1
  exact ⟨as, r⟩
def rAdd (K : PySem.W.Frag) : R2 := fun x y H Q => (rI0 (fun i j => .int (i + j))) x y H Q ∨ (∃ i j, x = .str i ∧ y = .str j ∧ i.length + j.length ≤ sizeLine ∧ Q (.str (i ++ j)) H) ∨ rCat x y H Q ∨ rCatA K x y H Q
theorem op_rAdd : OpR X (binaryOp .Add) (rAdd X.K) := op_add.or (op_add_str.or (op_cat.or op_catA))
theorem od_add {K : PySem.W.Frag} : OpD K (rAdd K) δAdd := by
  intro G F0 F H vs es x y dx dy mx my Q R hl S hδ hk
  obtain ⟨d1, d2⟩ := S.two hl
  obtain ⟨as, r1⟩ := S.twoR hl
  obtain ⟨bs, r2⟩ := S.twoR2 hl
  unfold δAdd at hδ
  split at hδ
  · cases d1; cases d2
    exact .inl ⟨_, _, rfl, rfl, hk _ _ _ F H hδ (S.done hl (.int _))⟩
  · cases d1; cases d2
    exact .inr (.inl ⟨_, _, rfl, rfl, hδ.1, hk _ _ _ F H hδ.2 (S.done hl (.str _))⟩)
  · obtain ⟨hz, c1, c2, hr⟩ := hδ
    obtain ⟨a, zs, rfl, h1, A1⟩ := capI_root S r1 c1
    obtain ⟨b, ws, rfl, h2, A2⟩ := capI_root S r2 c2
    refine .inr (.inr (.inl ⟨a, b, zs, ws, rfl, rfl, h1, h2, by rw [A1.length, A2.length]; exact hz, fun p hp => ?_⟩))
    exact hk _ _ _ F _ hr (push_newL (S.drop hl) hl hp (A1.append A2))
  · obtain ⟨hz, c1, c2, hr⟩ := hδ
    rename_i xs ys
    have D1 := tup_root S r1 c1
    have D2 := tup_root S r2 c2
    cases D1 with
    | @tup a zs _ s1 A1 =>
      cases D2 with
      | @tup b ws _ s2 A2 =>
        refine .inr (.inr (.inr ⟨a, b, zs, ws, rfl, rfl, same_seqT S.fh s1, same_seqT S.fh s2, by rw [A1.length, A2.length]; exact hz, fun e => ?_, fun _ e => ?_, fun _ _ p hp => ?_⟩))
        · subst e
          cases A1
          exact hk _ _ _ F H hr (S.done hl (.tup s2 A2))
        · subst e
          cases A2
          rw [List.append_nil] at hr
          exact hk _ _ _ F H hr (S.done hl (.tup s1 A1))
        · have S1 := (S.drop hl).allocF (o := .tup (zs ++ ws)) hp
          have sm := same_upd (o := HO.tup (zs ++ ws)) (S.fnone hp)
          exact hk _ _ _ _ _ hr (S1.pushF hl (.tup (.inl (.inl upd_same)) ((A1.mono sm).append (A2.mono sm))))
  · exact hδ.elim
theorem pd_add (ha : PD X W p1 a ma) (hb : PD X W p2 b mb) : PD X W (p1 && p2) (.BinOp a .Add b pos) (dBin p2 ma mb δAdd) := pd_op op_rAdd od_add ha hb

/-! ### try .. except X: without a name -/
@[simp ↓] def dTry (cl : Value → Option Bool) (m s : DS) : DS := fun env E => m env { E with ex := fun x e => match cl x.cls with
  | some true => e.length = env.length ∧ s e { E with ex := nox }
  | some false => E.ex x e
  | none => False }
theorem pds_try {x : Str} {c : Value} {body suite : List Stmt} {b₀ : Stmt} {np pos' : Pos} {m s : DS} (hs : X.stack = X.env :: X.outer) (hf : X.env.frame = some X.env.locals) (hc : Names X x c) (tk : Takes X W)
    (hb : ∀ (W : WX) (pn : List (Addr × Obj)) (xe : Value → Shared → Prop), Takes (X.tr pn xe) W → PassesOwn (model X.prog X.w) X.A X.env xe → PDSs (X.tr pn xe) W body m)
    (hsu : ∀ (a : Addr) (oe : Obj) (cls : Value) (d : Option Addr) (pn : List (Addr × Obj)), Zc cls d oe → (∃ vs, oe.data = .fields vs) → PDSs (X.suite a ((a, oe) :: pn)) wF (b₀ :: suite) s) :
    PDS X W (.Try body [.ExceptHandler (some (.Name x np)) none (b₀ :: suite) pos'] [] [] pos) (dTry (fun cls => PySem.W.exmOne X.K cls c) m s) := by
  refine pds_of (ps_try_only hs hf hc tk (tb := fun W' => tDS X.K W' m) (ts := fun _ _ _ => tDS X.K wF s) (fun W' pn xe tk' po => hb W' pn xe tk' po) (fun a oe cls d pn hz hv => hsu a oe cls d pn hz hv)) fun G F0 F H σ env tv te E D S l1 l2 nv wo hm k1 k2 k3 k4 => ?_
  refine ⟨G, F0, F, env, tv, te, _, S, l1, l2, nv, ⟨tv, [], te, [], by simp, by simp, l2, fun y env' cls dx σ' F' H' hy l3 S' xr => ?_⟩, hm, k1, k2, k3, k4⟩
  have ec : cls = y.cls := xr.1
  subst ec
  dsimp only at hy
  split at hy
  · rename_i hb1
    obtain ⟨l0, hy⟩ := hy
    have l0' : σ'.length = σ.length := by omega
    exact ⟨true, hb1, (fun _ a ha => ⟨G, F0, F', env', tv, te, { E with ex := nox }, S', l3, l2, nv, wok_nox, hy, fun σ2 F2 H2 e2 q l5 l6 S2 => k1 σ2 F2 H2 e2 q l5 (l6.trans l0') S2, fun v d md σ2 F2 H2 e2 q g l5 l6 S2 => k2 v d md σ2 F2 H2 e2 q g l5 (l6.trans l0') S2, fun σ2 F2 H2 e2 q l5 l6 S2 => k3 σ2 F2 H2 e2 q l5 (l6.trans l0') S2, fun σ2 F2 H2 e2 q l5 l6 S2 => k4 σ2 F2 H2 e2 q l5 (l6.trans l0') S2⟩), (fun z => absurd z (by decide))⟩
  · rename_i hb1
    exact ⟨false, hb1, (fun z => absurd z (by decide)), (fun _ => wo.use hy l3 S' xr)⟩
  · exact hy.elim
end
end DL
/-! D layer, part 15: facts of the module; defs with defaults; the end of a law. -/
namespace DL
open PySem PySem.Spec PyProof.Rows L2

/-- the built-ins' names stand for themselves -/
def bnames : List Str := ["int", "len", "abs", "list", "isinstance", "range", "sorted", "bool", "str", "tuple", "dict", "sum", "min", "max", "zip", "enumerate", "all", "any", "set"]
structure Bn (mg : Str → Option Value) : Prop where
  int : mg "int" = none
  len : mg "len" = none
  abs : mg "abs" = none
  list : mg "list" = none
  isi : mg "isinstance" = none
  range : mg "range" = none
  sorted : mg "sorted" = none
  bool : mg "bool" = none
  str : mg "str" = none
  tuple : mg "tuple" = none
  dict : mg "dict" = none
  sum : mg "sum" = none
  min : mg "min" = none
  max : mg "max" = none
  zip : mg "zip" = none
  enum : mg "enumerate" = none
  all : mg "all" = none
  any : mg "any" = none
  set : mg "set" = none
/-- what the module's name x holds -/
structure GlK (K : PySem.W.Frag) (mg : Str → Option Value) (x : Str) (d : D) : Prop where
  ex : ∃ (u : Value) (v : V), mg x = some u ∧ RelV v u ∧ ∀ F, Dv K F v d
/-- an own class of exceptions without __init__ -/
structure ExK (K : PySem.W.Frag) (mg : Str → Option Value) (x : Str) (C : Addr) : Prop where
  ex : ∃ (bmB : List Value) (B newId initId : String), ExcBaseFacts B newId initId bmB ∧ PySem.W.excIn K C bmB newId = true
  gC : mg x = some (.ref C)
  kC : PySem.W.keepIn K (.ref C) = true
  r1 : PySem.W.subIn K (.ref C) (.type "BaseException") = some true
  r2 : PySem.W.typeIn K (.ref C) = some (.type "type")
/-- the classes' addresses; which exceptions a clause takes -/
structure Xf where
  a : Str → Addr
  tr : Str → Value → Option Bool
/-- what is known of them: (class, the clause's class, is it taken) -/
def Trs (c : Xf) (l : List (Str × Str × Bool)) : Prop := ∀ q ∈ l, c.tr q.2.1 (.ref (c.a q.1)) = some q.2.2
section
variable {X : Cx} {W : WX} {p : Bool} {pos : Pos}
theorem pd_gl {x : Str} {d : D} (g : GlK X.K X.mg x d) (hg : Gl X x) (hd : (x == ("__debug__" : Str)) = false := by decide) : PD X W true (.Name x pos) (dC d) := pd_glob ⟨g.ex⟩ hg hd
theorem pd_w {e : Expr} {m : DE} (h : PD X W true e m) : PD X W p e m := PE.imp h fun σ H Q ⟨G, F0, F, env, tv, te, R, Ex, S, l1, l2, nv, r⟩ => ⟨G, F0, F, env, tv, te, R, Ex, S, l1, l2, .inl rfl, r⟩
theorem pdu_w {es : List Expr} {m : DU} (h : PDU X W true es m) : PDU X W p es m := PA.imp h fun σ H Q ⟨G, F0, F, env, tv, te, R, Ex, S, l1, l2, nv, r⟩ => ⟨G, F0, F, env, tv, te, R, Ex, S, l1, l2, .inl rfl, r⟩
/-- what is never reached -/
def dDead : DE := fun _ _ _ => False
def dDeadS : DS := fun _ _ => False
theorem pd_dead {e : Expr} : PD X W true e dDead := ⟨fun pins s σ H Q I ⟨G, F0, F, env, tv, te, R, Ex, S, l1, l2, nv, wo, hm, hk⟩ => hm.elim⟩
theorem pds_dead {st : Stmt} : PDS X W st dDeadS := ⟨fun pins s σ H D I ⟨G, F0, F, env, tv, te, E, S, l1, l2, nv, wo, hm, k⟩ => hm.elim⟩
theorem pdss_dead {st : List Stmt} : PDSs X W st dDeadS := ⟨fun pins s σ H D I ⟨G, F0, F, env, tv, te, E, S, l1, l2, nv, wo, hm, k⟩ => hm.elim⟩
theorem pds_raiseK {x : Str} {q rpos : Pos} {e : Expr} {es : List Expr} {C : Addr} {m : DA} (c : ExK X.K X.mg x C) (hc : X.calm = true) (tk : Takes X W) (hg : Gl X x) (ha : PDA X W p (e :: es) m) (hdb : (x == ("__debug__" : Str)) = false := by decide)
    (he : starEach (e :: es) X.env = (false, eval e X.env) :: starEach es X.env := by rfl) (hpl : (backTo pos (starEach es X.env)).any (·.1) = false := by rfl) :
    PDS X W (.Raise (some (.Call (.Name x q) (e :: es) [] pos)) none rpos) (dRaise C m) := pds_raise ⟨c.ex, c.gC, c.kC, c.r1, c.r2⟩ hc tk hg ha hdb he hpl
@[simp] theorem pds_tryK {cl : Value → Option Bool} {x : Str} {c : Value} {body suite : List Stmt} {b₀ : Stmt} {np pos' : Pos} {m s : DS} (ht : ∀ v, cl v = PySem.W.exmOne X.K v c) (hs : X.stack = X.env :: X.outer) (hf : X.env.frame = some X.env.locals) (hc : Names X x c) (tk : Takes X W)
    (hb : ∀ (W : WX) (pn : List (Addr × Obj)) (xe : Value → Shared → Prop), Takes (X.tr pn xe) W → PassesOwn (model X.prog X.w) X.A X.env xe → PDSs (X.tr pn xe) W body m)
    (hsu : ∀ (a : Addr) (oe : Obj) (cls : Value) (d : Option Addr) (pn : List (Addr × Obj)), Zc cls d oe → (∃ vs, oe.data = .fields vs) → PDSs (X.suite a ((a, oe) :: pn)) wF (b₀ :: suite) s) :
    PDS X W (.Try body [.ExceptHandler (some (.Name x np)) none (b₀ :: suite) pos'] [] [] pos) (dTry cl m s) := by
  rw [show cl = fun v => PySem.W.exmOne X.K v c from funext ht]
  exact pds_try hs hf hc tk hb hsu
@[simp ↓] def δSub : DR2 := δI (fun _ _ => True) fun i j => .int (i - j)
@[simp ↓] def δMul : DR2 := δI CMulW fun i j => .int (i * j)
@[simp ↓] def δFdiv : DR2 := δI CDivW fun i j => .int (i / j)
@[simp ↓] def δMod : DR2 := δI (fun _ j => 0 < j) fun i j => .int (i % j)
@[simp ↓] def δPow : DR2 := δI CPow fun i j => .int (i ^ j.toNat)
@[simp ↓] def δLt : DR2 := δI (fun _ _ => True) fun i j => .bl (decide (i < j))
@[simp ↓] def δLe : DR2 := δI (fun _ _ => True) fun i j => .bl (decide (i ≤ j))
@[simp ↓] def δGt : DR2 := δI (fun _ _ => True) fun i j => .bl (decide (j < i))
@[simp ↓] def δGe : DR2 := δI (fun _ _ => True) fun i j => .bl (decide (j ≤ i))
end

/-! ### defs, with defaults or without -/
section
variable {P : Program} {w : World} {K : PySem.W.Frag} {mg : Str → Option Value} {base : Heap}
theorem fnDD {x qual : Str} {st : Stmt} {dvs : List V} {kws : List (Str × V)} {f : Addr} {fd : FuncData} {N ps : List Str} {k : Nat} {pm : List PMd} {sp : DSp} {m : DS} (F : FunD K x qual (defArgs st) (defBody st) (defScope st) dvs kws f fd) (S : FnScope N ps (defScope st)) (lp : pm.length = ps.length)
    (hbody : ∀ (cdv : Value) (A : Around) (outer : List PySem.Env) (s : Shared) (H : Hp) (E : XK) (W : WX), Takes (cxOf (CX P w) P w K mg base N qual (defScope st) f cdv A outer s H E) W → Room k (A.deeper (envOfC qual (defScope st) s.heap.objs.size f cdv)) →
      PDSs (cxOf (CX P w) P w K mg base N qual (defScope st) f cdv A outer s H E) W (defBody st) m)
    (hm : ∀ (ds : List D) (vs : List V) (Q : DOut → Prop), ds.length = pm.length → vs.length = pm.length → sp ds Q → m (defEnv pm ds vs (N.length - pm.length)) (defEnds pm vs Q)) : FnOk P w K mg base (CX P w) (k + 1) f fd ps (lift K pm sp) := by
  refine F.ok S (fun vs H Q E ⟨_, _, _, l, _⟩ => l.trans lp) fun cdv A outer s H vs Q E hr ⟨G, F0, ds, l1, l2, S0, hsp⟩ => ?_
  have tk : Takes (cxOf (CX P w) P w K mg base N qual (defScope st) f cdv A outer s H E) (fun cls d _ H' => E cls d H') := takes_of rfl rfl rfl rfl
  refine ⟨_, hbody cdv A outer s H E _ tk hr, ?_⟩
  have le := entE_len l2 l1
  have lN : ps.length ≤ N.length := by have := congrArg List.length S.pre; rw [List.length_take] at this; omega
  have q := hm ds vs _ l2 l1 hsp
  have S1 : StD K G F0 F0 H (L2.start N vs ++ []) (defEnv pm ds vs (N.length - pm.length) ++ []) := by
    refine S0.reix id (fun _ _ _ _ e => e) fun j p e => ?_
    rw [List.append_nil] at e
    simp only [id, List.append_nil]
    unfold defEnv at e
    by_cases hj : j < (entE pm ds vs).length
    · rw [List.getElem?_append_left hj] at e
      refine ⟨e, ?_⟩
      unfold L2.start
      rw [List.getElem?_append_left (by simp; omega)]
    · rw [List.getElem?_append_right (by omega), List.getElem?_replicate] at e
      split at e <;> cases e
  refine ⟨G, F0, F0, _, [], [], _, S1, by simp [defEnv, L2.start, le]; omega, rfl, NoView.nil, ⟨[], [], [], [], rfl, rfl, rfl, fun x' env' cls dx σ' F' H' hx l S' xr => ?_⟩, q, fun σ' F' H' env' hn l3 l4 S' => ?_, fun v d md σ' F' H' env' hr' g l3 l4 S' => ?_, fun _ _ _ _ h => h.elim, fun _ _ _ _ h => h.elim⟩
  · obtain ⟨ms, h1, h2⟩ := exitQ_get hx
    exact h1 cls dx F' H' (exit_X (show StD K G F0 F' H' σ' env' from by have z := S'; rw [List.append_nil, List.append_nil] at z; exact z) l h2) xr
  · obtain ⟨ms, h1, h2⟩ := exitQ_get hn
    exact h1 rfl .non F' H' (exit_S ((show StD K G F0 F' H' σ' env' from by have z := S'; rw [List.append_nil, List.append_nil] at z; exact z).pushF l3.symm .non) l3 h2)
  · obtain ⟨ms, h1, h2⟩ := exitQ_get hr'
    exact h1 g v F' H' (exit_S (show StD K G F0 F' H' (σ' ++ [some v]) (env' ++ [some (d, md)]) from S') l3 h2)
end


/-! ### the end of a law -/
section
variable {P : Program} {w : World} {K : PySem.W.Frag} {mg : Str → Option Value} {base : Heap}
/-- a def of the text, called with n values (j of the defaults are not used) -/
theorem DFun.ofN {x qual : Str} {params : Arguments} {body : List Stmt} {scope : Scope} {f : Addr} {fd : FuncData} {ps : List Str} {k : Nat} {pm : List PMd} {sp : DSp} (F : FunD K x qual params body scope [] [] f fd) (g : mg x = some (.ref f)) (mono : SpM sp)
    (ok : FnOk P w K mg base (CX P w) k f fd ps (lift K pm sp))
    (h : ∀ (kV doc pm : Value) (an : Option Addr) (cdv ct : Value) (us : List Value), us.length = ps.length → bindArgs (PySem.W.fnOf x qual params body scope .none kV doc pm an cdv ct) ⟨us, []⟩ = pure (ps.zip us)) : DFun P w K mg base k x pm sp [] :=
  ⟨⟨f, fd, ps, [], [], g, F.kp, ok, F.bindsN h, .nil, fun _ => .nil⟩, mono⟩
theorem DFun.of1 {x qual : Str} {params : Arguments} {body : List Stmt} {scope : Scope} {dvs : List V} {dds : List D} {f : Addr} {fd : FuncData} {ps : List Str} {k : Nat} {pm : List PMd} {sp : DSp} (F : FunD K x qual params body scope dvs [] f fd) (g : mg x = some (.ref f)) (mono : SpM sp)
    (ok : FnOk P w K mg base (CX P w) k f fd ps (lift K pm sp)) (n j : Nat) (hd : dvs ≠ []) (hn : n + (dvs.length - j) = ps.length) (hdv : ∀ Z, DvA K Z (dvs.drop j) dds)
    (h : ∀ (T : Addr) (kV doc pm : Value) (an : Option Addr) (cdv ct : Value) (us its : List Value), us.length = n → its.length = dvs.length →
      ∃ k, bindArgs (PySem.W.fnOf x qual params body scope (.ref T) kV doc pm an cdv ct) ⟨us, []⟩ = seqItems? (.ref T) >>= k ∧ k (some its.toArray) = pure (ps.zip (us ++ its.drop j))) : DFun P w K mg base k x pm sp dds := by
  obtain ⟨ds, hv, hb⟩ := F.binds1 n j hd hn h
  exact ⟨⟨f, fd, ps, ds, dvs.drop j, g, F.kp, ok, hb, hv, hdv⟩, mono⟩
end
/-- law's promise -/
def spLaw (n : Nat) : DSp := fun ds Q => ∃ ns : List Int, ds = [.scr ns] ∧ ns.length ≤ n ∧ Q (.ret (.bl true) .frz [none])
theorem lift_law {K : PySem.W.Frag} {n : Nat} {H : Hp} {a : Addr} {ns : List Int} (hl : ns.length ≤ n) (hO : L2.Only H) (hS : SqL K H a (ns.map V.int)) : lift K [.l] (spLaw n) [.ref a] H (fun v _ => v = .bl true) fun _ _ _ => False := by
  refine ⟨H, H, [.scr ns], rfl, rfl, ⟨fun _ _ q => q, fun _ _ q => q, fun _ _ q => q, fun _ _ q => .inl q, fun _ _ q => q, fun _ => [], fun i => ?_, fun _ => List.nodup_nil, fun _ _ _ h => absurd h List.not_mem_nil, fun _ _ h => absurd h List.not_mem_nil⟩, ns, rfl, hl, fun _ v F' H' S => ?_⟩
  · cases i with
    | zero => exact ⟨_, rfl, .scr hS, rfl⟩
    | succ i => cases i <;> rfl
  · obtain ⟨v', e, dv⟩ := S.get (i := 0) rfl
    cases e
    cases dv
    rfl
theorem walk_D {l : PySem.W.OpenLaw} {n k : Nat} {q : Program} {loose : List Str} {XP : (Str → Option Value) → Heap → Prop} {YP : World → Heap → Prop} {d : DefRec}
    (hn : l.most = some n) (hn2 : n ≤ sizeLine) (hdf : d.params.defaults = []) (hr : Room k callerA)
    (F : ∀ (w : World) (mg : Str → Option Value) (fa : Addr) (h : Heap), YP w h → h.Ns mainGlobals mg → mg d.name = some (.ref fa) →
      ∃ (K : PySem.W.Frag) (fd : FuncData), K.In h ∧ (∀ (s : Shared) (u : Value), BindsTo s fd ⟨[u], []⟩ [("script", u)]) ∧
        ∀ base : Heap, K.In base → base.Ns mainGlobals mg → FnOk l.prog w K mg base (CX l.prog w) k fa fd ["script"] (lift K [.l] (spLaw n))) :
    PySem.W.WalkO q loose XP YP l.row.toRowW d [] (fun f vs => PySem.call f vs) := by
  refine Att.attach_call hn hdf fun w s₀ s₁ mg mb fa o pm cd doc a vs ns G Y ho hd hcd hmg hobj hints hlen hg => ?_
  obtain ⟨K, fd, KX, hb, hF⟩ := F w mg fa _ Y G.T.g hmg
  exact law_call KX G.T.g G.T.b G.T.builtins G.T.nolimit hg hobj hints (Nat.le_trans hlen hn2) hr hF hb (fun H hO hS => lift_law hlen hO hS) fun H e s' h => by
    obtain ⟨_, _, _, _, _, _, _, _, _, _, _, _, z⟩ := h
    exact z.elim

/-! ### the head's Hook, with any further facts -/
abbrev AlY : Type := He.AlD × Bool
def obsY (fa : List He.Fa) (fn : List He.DefD) (ex : PySem.W.Frag → Bool) (K : PySem.W.Frag) : AlY := (He.obsD fa fn K, ex K)
structure SaysY (fa : List He.Fa) (fn : List He.DefD) (ex : PySem.W.Frag → Bool) (K : PySem.W.Frag) : Prop where
  d : He.SaysD fa fn K
  ex : ex K = true
def obsYG (n : Nat) (fa : List He.Fa) (fn : List He.DefD) (ex : PySem.W.Frag → Bool) (g : Addr → Option Obj) : AlY := obsY fa fn ex (He.frG g (He.asD g n))
def hookY (n : Nat) (fa : List He.Fa) (fn : List He.DefD) (ex : PySem.W.Frag → Bool) : PySem.W.Hook where
  α := AlY
  obs := fun s => obsYG n fa fn ex s.heap.get?
  val := fun _ => (He.valD fn, true)
  says := fun _ h => ∃ K : PySem.W.Frag, K.In h ∧ SaysY fa fn ex K
  of := fun _ _ e => ⟨_, He.frG_in, congrArg (fun z : AlY => z.1) e, congrArg (fun z : AlY => z.2) e⟩
  keeps := fun _ _ _ ⟨K, hK, c⟩ k => ⟨K, PySem.W.Frag.In.keeps hK k, c⟩
theorem obsYG_eq {n : Nat} {fa : List He.Fa} {fn : List He.DefD} {ex : PySem.W.Frag → Bool} {g : Addr → Option Obj} {s : Shared} (h : ∀ a, g a = s.heap.get? a) : obsYG n fa fn ex g = (hookY n fa fn ex).obs s := by
  have e : g = s.heap.get? := funext h
  rw [e] <;> rfl
end DL
/-! D layer, part 16: reading combinators on an environment that is written out. -/
namespace DL
open PySem PySem.Spec PyProof.Rows L2

/-- slot i is looked at -/
def getK : Env → Nat → (D → Md → Prop) → Prop
  | some (d, md) :: _, 0, k => k d md
  | none :: _, 0, _ => False
  | _ :: e, i + 1, k => getK e i k
  | [], _, _ => False
@[simp ↓] theorem getK_0 {d : D} {md : Md} {e : Env} {k : D → Md → Prop} : getK (some (d, md) :: e) 0 k = k d md := rfl
@[simp ↓] theorem getK_1 {x : Slot} {e : Env} {k : D → Md → Prop} : getK (x :: e) 1 k = getK e 0 k := by cases x <;> rfl
@[simp ↓] theorem getK_2 {x y : Slot} {e : Env} {k : D → Md → Prop} : getK (x :: y :: e) 2 k = getK e 0 k := by cases x <;> cases y <;> rfl
@[simp ↓] theorem getK_3 {x y z : Slot} {e : Env} {k : D → Md → Prop} : getK (x :: y :: z :: e) 3 k = getK e 0 k := by cases x <;> cases y <;> cases z <;> rfl
@[simp ↓] theorem getK_s {x : Slot} {e : Env} {i : Nat} {k : D → Md → Prop} : getK (x :: e) (i + 1) k = getK e i k := by cases x <;> rfl
theorem getK_iff {e : Env} {i : Nat} {k : D → Md → Prop} : getK e i k ↔ match e[i]? with
    | some (some (d, md)) => k d md
    | _ => False := by
  induction e generalizing i with
  | nil => simp [getK]
  | cons x e ih =>
    cases i with
    | zero => cases x <;> simp [getK]
    | succ i => rw [getK_s, ih]; simp
/-- slot i is stored -/
def putK : Env → Nat → Slot → (Env → Prop) → Prop
  | _ :: e, 0, s, k => k (s :: e)
  | x :: e, i + 1, s, k => putK e i s fun e' => k (x :: e')
  | [], _, _, k => k []
@[simp ↓] theorem putK_0 {x s : Slot} {e : Env} {k : Env → Prop} : putK (x :: e) 0 s k = k (s :: e) := rfl
@[simp ↓] theorem putK_s {x s : Slot} {e : Env} {i : Nat} {k : Env → Prop} : putK (x :: e) (i + 1) s k = putK e i s fun e' => k (x :: e') := rfl
theorem putK_eq {e : Env} {i : Nat} {s : Slot} {k : Env → Prop} : putK e i s k = k (e.set i s) := by
  induction e generalizing i k with
  | nil => rfl
  | cons x e ih =>
    cases i with
    | zero => rfl
    | succ i => rw [putK_s, ih]; rfl
/-! ### names -/
@[simp ↓] def slotR : Md → D → (D → Md → Prop) → Prop
  | .frz, d, R => R d .frz
  | .lent, d, R => R d .lent
  | .own m, d, R => R d (vw m)
  | .brw m _, d, R => R d (vw m)
  | .view _, _, _ => False
theorem dSlot_iff {i : Nat} {env : Env} {R : DQ} {Ex : DX} : dSlot i env R Ex ↔ getK env i fun d md => slotR md d fun d md => R d md env := by
  rw [getK_iff]
  unfold dSlot
  cases env[i]? with
  | none => simp
  | some x => cases x with
    | none => simp
    | some p => obtain ⟨d, md⟩ := p; cases md <;> simp
@[simp ↓] theorem dSlot_ev {i : Nat} {env : Env} {R : DQ} {Ex : DX} : dSlot i env R Ex = getK env i fun d md => slotR md d fun d md => R d md env := propext dSlot_iff
@[simp ↓] def slotRF : Md → D → Nat → Env → DQ → Prop
  | .frz, d, _, e, R => R d .frz e
  | .lent, d, _, e, R => R d .lent e
  | .own _, d, i, e, R => putK e i (some (d, .frz)) fun e' => R d .frz e'
  | .brw _ _, _, _, _, _ => False
  | .view _, _, _, _, _ => False
@[simp ↓] theorem dSlotF_ev {i : Nat} {env : Env} {R : DQ} {Ex : DX} : dSlotF i env R Ex = getK env i fun d md => slotRF md d i env R := by
  apply propext
  rw [getK_iff]
  unfold dSlotF
  cases env[i]? with
  | none => simp
  | some x => cases x with
    | none => simp
    | some p => obtain ⟨d, md⟩ := p; cases md <;> simp [putK_eq]
@[simp ↓] def slotRM : Md → D → Nat → Env → DQ → Prop
  | .frz, d, _, e, R => R d .frz e
  | .lent, d, _, e, R => R d .lent e
  | .own m, d, i, e, R => putK e i none fun e' => R d (.own m) e'
  | .brw _ _, _, _, _, _ => False
  | .view _, _, _, _, _ => False
@[simp ↓] theorem dMove_ev {i : Nat} {env : Env} {R : DQ} {Ex : DX} : dMove i env R Ex = getK env i fun d md => slotRM md d i env R := by
  apply propext
  rw [getK_iff]
  unfold dMove
  cases env[i]? with
  | none => simp
  | some x => cases x with
    | none => simp
    | some p => obtain ⟨d, md⟩ := p; cases md <;> simp [putK_eq]
/-! ### stores -/
/-- slot i may be stored -/
def nbK : Env → Nat → Prop
  | some (_, .brw _ _) :: _, 0 => False
  | _ :: _, 0 => True
  | _ :: e, i + 1 => nbK e i
  | [], _ => False
@[simp ↓] theorem nbK_none {e : Env} : nbK (none :: e) 0 = True := rfl
@[simp ↓] theorem nbK_frz {d : D} {e : Env} : nbK (some (d, .frz) :: e) 0 = True := rfl
@[simp ↓] theorem nbK_lent {d : D} {e : Env} : nbK (some (d, .lent) :: e) 0 = True := rfl
@[simp ↓] theorem nbK_own {d : D} {m : Mask} {e : Env} : nbK (some (d, .own m) :: e) 0 = True := rfl
@[simp ↓] theorem nbK_s {x : Slot} {e : Env} {i : Nat} : nbK (x :: e) (i + 1) = nbK e i := by
  cases x with
  | none => rfl
  | some p => obtain ⟨d, md⟩ := p; cases md <;> rfl
theorem notBrw_ev {e : Env} {i : Nat} : notBrw e i = nbK e i := by
  apply propext
  unfold notBrw
  induction e generalizing i with
  | nil => simp [nbK]
  | cons x e ih =>
    cases i with
    | zero => cases x with
      | none => simp
      | some p => obtain ⟨d, md⟩ := p; cases md <;> simp [nbK]
    | succ i => rw [nbK_s, ← ih]; simp
@[simp ↓] def stK : Option Md → D → Nat → Env → (Env → Prop) → Prop
  | some md, d, i, e, R => putK e i (some (d, md)) R
  | none, _, _, _, _ => False
@[simp ↓] def keepK : D → Md → (Md → Prop) → Prop
  | .non, _, k => k .frz
  | .bl _, _, k => k .frz
  | .int _, _, k => k .frz
  | .str _, _, k => k .frz
  | d, md, k => match keepMd d md with
    | some md' => k md'
    | none => False
theorem keepK_iff {d : D} {md : Md} {k : Md → Prop} : keepK d md k ↔ match keepMd d md with
    | some md' => k md'
    | none => False := by cases d <;> simp [keepK, keepMd]
@[simp ↓] theorem dgName_ev {i : Nat} {d : D} {md : Md} {env : Env} {R : Env → Prop} {Ex : DX} : dgName i d md env R Ex = (nbK env i ∧ keepK d md fun md' => putK env i (some (d, md')) R) := by
  apply propext
  rw [keepK_iff]
  unfold dgName
  rw [notBrw_ev]
  cases keepMd d md <;> simp [putK_eq]
@[simp ↓] theorem dPar_ev {i j : Nat} {m : DA} {env : Env} {E : DEnds} : dPar i j m env E = m env (fun ds e => match ds with
  | [(d1, m1), (d2, m2)] => nbK e i ∧ nbK e j ∧ keepK d1 m1 fun a => keepK d2 m2 fun b => putK e i (some (d1, a)) fun e1 => putK e1 j (some (d2, b)) E.nx
  | _ => False) E.ex := by
  unfold dPar
  congr 1
  funext ds e
  match ds with
  | [] => rfl
  | [_] => rfl
  | _ :: _ :: _ :: _ => rfl
  | [(d1, m1), (d2, m2)] =>
    apply propext
    dsimp only
    rw [notBrw_ev, notBrw_ev, keepK_iff]
    simp only [keepK_iff, putK_eq]
    cases keepMd d1 m1 <;> cases keepMd d2 m2 <;> simp
/-! ### lists that are changed -/
def lsS : Slot → (List D → Md → Prop) → Prop := fun x k => match x with
  | some (.lst ds, .own (.o .f)) => k ds (.own (.o .f))
  | some (.lst ds, .brw (.o .f) v) => k ds (.brw (.o .f) v)
  | _ => False
def lsK : Env → Nat → (List D → Md → Prop) → Prop
  | x :: _, 0, k => lsS x k
  | _ :: e, i + 1, k => lsK e i k
  | [], _, _ => False
@[simp ↓] theorem lsK_own {ds : List D} {e : Env} {k : List D → Md → Prop} : lsK (some (.lst ds, .own (.o .f)) :: e) 0 k = k ds (.own (.o .f)) := rfl
@[simp ↓] theorem lsK_brw {ds : List D} {v : V} {e : Env} {k : List D → Md → Prop} : lsK (some (.lst ds, .brw (.o .f) v) :: e) 0 k = k ds (.brw (.o .f) v) := rfl
@[simp ↓] theorem lsK_s {x : Slot} {e : Env} {i : Nat} {k : List D → Md → Prop} : lsK (x :: e) (i + 1) k = lsK e i k := rfl
@[simp ↓] theorem lstAt_ev {e : Env} {i : Nat} {k : List D → Md → Prop} : lstAt e i k = lsK e i k := by
  unfold lstAt
  induction e generalizing i with
  | nil => rfl
  | cons x e ih =>
    cases i with
    | zero => cases x with
      | none => rfl
      | some p =>
        obtain ⟨d, md⟩ := p
        cases d with
        | lst ds => cases md with
          | own m => cases m with
            | o m => cases m <;> rfl
            | _ => rfl
          | brw m v => cases m with
            | o m => cases m <;> rfl
            | _ => rfl
          | _ => rfl
        | _ => rfl
    | succ i => rw [lsK_s, ← ih]; rfl
@[simp ↓] theorem dgSub_ev {i : Nat} {pi : Bool} {mi : DE} {d : D} {md : Md} {env : Env} {R : Env → Prop} {Ex : DX} : dgSub i pi mi d md env R Ex = (viewOk pi md ∧ capB d md = true ∧ (getK env i fun _ _ => True) ∧ mi env (fun di _ e => noviewE e = true ∧ match di with
  | .int k => lsK e i fun ds mo => match ixN ds.length k with
    | some j => putK e i (some (.lst (ds.set j d), mo)) R
    | none => False
  | _ => False) Ex) := by
  unfold dgSub
  simp only [lstAt_ev, putK_eq]
  congr 1
  congr 1
  congr 1
  apply propext
  rw [getK_iff]
  constructor
  · rintro ⟨⟨d, md⟩, h⟩; rw [h]; trivial
  · intro h
    split at h
    · rename_i d md h'; exact ⟨_, h'⟩
    · exact h.elim
theorem ex_getK {env : Env} {i : Nat} : (∃ p, env[i]? = some (some p)) = getK env i fun _ _ => True := by
  apply propext
  rw [getK_iff]
  constructor
  · rintro ⟨⟨d, md⟩, h⟩; rw [h]; trivial
  · intro h
    split at h
    · rename_i d md h'; exact ⟨_, h'⟩
    · exact h.elim
@[simp ↓] theorem dAugS_ev {i : Nat} {g : Int → Int → Int} {mi me : DE} {env : Env} {E : DEnds} : dAugS i g mi me env E = ((getK env i fun _ _ => True) ∧ mi env (fun di _ e1 => match di with
  | .int k => lsK e1 i fun ds mo => match atI ds k, ixN ds.length k with
    | some (.int a), some j => me e1 (fun dv _ e2 => noviewE e2 = true ∧ match dv with
      | .int b => lsK e2 i fun ds2 mo2 => ds2.length = ds.length ∧ putK e2 i (some (.lst (ds2.set j (.int (g a b))), mo2)) E.nx
      | _ => False) E.ex
    | _, _ => False
  | _ => False) E.ex) := by
  unfold dAugS
  rw [ex_getK]
  simp only [lstAt_ev, putK_eq]
  all_goals rfl
@[simp ↓] theorem dApp_ev {i : Nat} {m : DA} {env : Env} {R : DQ} {Ex : DX} : dApp i m env R Ex = ((lsK env i fun _ _ => True) ∧ m env (fun ds e => noviewE e = true ∧ match ds with
  | [(d, md)] => capB d md = true ∧ lsK e i fun xs mo => xs.length < sizeLine ∧ putK e i (some (.lst (xs ++ [d]), mo)) (R .non .frz)
  | _ => False) Ex) := by
  unfold dApp
  simp only [lstAt_ev, putK_eq]
  all_goals rfl
/-! ### calls -/
@[simp ↓] theorem uLn_ev {i : Nat} {mb : DU} {env : Env} {R : List Arg → Env → Prop} {Ex : DX} : uLn i mb env R Ex = ((getK env i fun _ _ => True) ∧ mb env (fun ys e2 => R (.ln i :: ys) e2) Ex) := by
  unfold uLn; rw [ex_getK]
@[simp ↓] theorem uSl_ev {i : Nat} {mb : DU} {env : Env} {R : List Arg → Env → Prop} {Ex : DX} : uSl i mb env R Ex = ((getK env i fun _ _ => True) ∧ mb env (fun ys e2 => R (.sl i :: ys) e2) Ex) := by
  unfold uSl; rw [ex_getK]
@[simp ↓] theorem nv_nil : noviewE [] = true := rfl
@[simp ↓] theorem nv_none {e : Env} : noviewE (none :: e) = noviewE e := rfl
@[simp ↓] theorem nv_frz {d : D} {e : Env} : noviewE (some (d, .frz) :: e) = noviewE e := rfl
@[simp ↓] theorem nv_lent {d : D} {e : Env} : noviewE (some (d, .lent) :: e) = noviewE e := rfl
@[simp ↓] theorem nv_own {d : D} {m : Mask} {e : Env} : noviewE (some (d, .own m) :: e) = noviewE e := rfl
@[simp ↓] theorem nv_brw {d : D} {m : Mask} {v : V} {e : Env} : noviewE (some (d, .brw m v) :: e) = noviewE e := rfl
@[simp ↓] def mdIs (k : Mask) : Md → Prop
  | .own k' => k' = k
  | .brw k' _ => k' = k
  | _ => False
@[simp ↓] def slOkK : List PMd → List Arg → Env → Prop
  | .m k :: ps, .sl i :: as, e => (getK e i fun _ md => mdIs k md) ∧ slOkK ps as e
  | _ :: ps, _ :: as, e => slOkK ps as e
  | _, _, _ => True
theorem slOkK_iff : ∀ {pm : List PMd} {as : List Arg} {e : Env}, slOkK pm as e ↔ slOk pm as e
  | [], as, e => by cases as <;> simp [slOkK, slOk]
  | p :: ps, [], e => by cases p <;> simp [slOkK, slOk]
  | .m k :: ps, .sl i :: as, e => by
    simp only [slOkK, slOk, slOkK_iff, getK_iff]
    apply and_congr_left
    intro _
    cases e[i]? with
    | none => simp
    | some x => cases x with
      | none => simp
      | some p => obtain ⟨d, md⟩ := p; cases md <;> simp [mdIs]
  | .m k :: ps, .dv d md :: as, e => by simp only [slOkK, slOk, slOkK_iff]
  | .m k :: ps, .ln i :: as, e => by simp only [slOkK, slOk, slOkK_iff]
  | .l :: ps, .sl i :: as, e => by simp only [slOkK, slOk, slOkK_iff]
  | .l :: ps, .dv d md :: as, e => by simp only [slOkK, slOk, slOkK_iff]
  | .l :: ps, .ln i :: as, e => by simp only [slOkK, slOk, slOkK_iff]
  | .z :: ps, .sl i :: as, e => by simp only [slOkK, slOk, slOkK_iff]
  | .z :: ps, .dv d md :: as, e => by simp only [slOkK, slOk, slOkK_iff]
  | .z :: ps, .ln i :: as, e => by simp only [slOkK, slOk, slOkK_iff]
/-- the data of the arguments -/
@[simp ↓] def argsK : List PMd → List Arg → Env → (List D → Prop) → Prop
  | .l :: ps, .dv d _ :: as, e, k => argsK ps as e fun ds => k (d :: ds)
  | .l :: ps, .ln i :: as, e, k => getK e i fun d md => md.noview = true ∧ argsK ps as e fun ds => k (d :: ds)
  | .z :: ps, .dv d md :: as, e, k => capB d md = true ∧ argsK ps as e fun ds => k (d :: ds)
  | .m _ :: ps, .sl i :: as, e, k => getK e i fun d _ => argsK ps as e fun ds => k (d :: ds)
  | _, [], _, k => k []
  | _, _, _, _ => False
theorem argsK_iff : ∀ {pm : List PMd} {as : List Arg} {e : Env} {k : List D → Prop}, argsK pm as e k ↔ match argsD pm as e with
    | some ds => k ds
    | none => False
  | [], [], _, _ => by simp [argsK, argsD]
  | p :: ps, [], _, _ => by cases p <;> simp [argsK, argsD]
  | [], a :: as, _, _ => by cases a <;> simp [argsK, argsD]
  | .l :: ps, .dv d md :: as, e, k => by
    rw [argsK, argsK_iff, argsD]
    cases argsD ps as e <;> simp
  | .l :: ps, .ln i :: as, e, k => by
    simp only [argsK, argsK_iff, argsD, getK_iff]
    cases e[i]? with
    | none => simp
    | some x => cases x with
      | none => simp
      | some p =>
        obtain ⟨d, md⟩ := p
        simp only
        rcases Bool.eq_false_or_eq_true md.noview with h | h
        · simp only [h, true_and, if_true]; cases argsD ps as e <;> simp
        · simp only [h, Bool.false_eq_true, false_and, if_false]
  | .l :: ps, .sl i :: as, e, k => by simp [argsK, argsD]
  | .z :: ps, .dv d md :: as, e, k => by
    simp only [argsK, argsK_iff, argsD]
    rcases Bool.eq_false_or_eq_true (capB d md) with h | h
    · simp only [h, true_and, if_true]; cases argsD ps as e <;> simp
    · simp only [h, Bool.false_eq_true, false_and, if_false]
  | .z :: ps, .ln i :: as, e, k => by simp [argsK, argsD]
  | .z :: ps, .sl i :: as, e, k => by simp [argsK, argsD]
  | .m k0 :: ps, .dv d md :: as, e, k => by simp [argsK, argsD]
  | .m k0 :: ps, .ln i :: as, e, k => by simp [argsK, argsD]
  | .m k0 :: ps, .sl i :: as, e, k => by
    simp only [argsK, argsK_iff, argsD, getK_iff]
    cases e[i]? with
    | none => simp
    | some x => cases x with
      | none => simp
      | some p =>
        obtain ⟨d, md⟩ := p
        simp only
        cases argsD ps as e <;> simp
/-- the promise at the arguments and the defaults behind them -/
def callN (sp : DSp) : List D → List D → (DOut → Prop) → Prop := fun ds dvs Q => sp (ds ++ dvs) Q
section
variable {sp : DSp} {dvs : List D} {a b c d e f : D} {Q : DOut → Prop}
@[simp ↓] theorem callN_0 : callN sp [] dvs Q = sp dvs Q := rfl
@[simp ↓] theorem callN_1 : callN sp [a] dvs Q = sp (a :: dvs) Q := rfl
@[simp ↓] theorem callN_2 : callN sp [a, b] dvs Q = sp (a :: b :: dvs) Q := rfl
@[simp ↓] theorem callN_3 : callN sp [a, b, c] dvs Q = sp (a :: b :: c :: dvs) Q := rfl
@[simp ↓] theorem callN_4 : callN sp [a, b, c, d] dvs Q = sp (a :: b :: c :: d :: dvs) Q := rfl
@[simp ↓] theorem callN_5 : callN sp [a, b, c, d, e] dvs Q = sp (a :: b :: c :: d :: e :: dvs) Q := rfl
@[simp ↓] theorem callN_6 : callN sp [a, b, c, d, e, f] dvs Q = sp (a :: b :: c :: d :: e :: f :: dvs) Q := rfl
end
/-- what a slot holds behind a call -/
def setDK : Env → Nat → D → (Env → Prop) → Prop
  | some (_, md) :: e, 0, d, k => k (some (d, md) :: e)
  | x :: e, 0, _, k => k (none :: e)
  | x :: e, i + 1, d, k => setDK e i d fun e' => k (x :: e')
  | [], _, _, k => k []
@[simp ↓] theorem setDK_0 {d0 d : D} {md : Md} {e : Env} {k : Env → Prop} : setDK (some (d0, md) :: e) 0 d k = k (some (d, md) :: e) := rfl
@[simp ↓] theorem setDK_s {x : Slot} {e : Env} {i : Nat} {d : D} {k : Env → Prop} : setDK (x :: e) (i + 1) d k = setDK e i d fun e' => k (x :: e') := by
  cases x <;> rfl
theorem setDK_eq {e : Env} {i : Nat} {d : D} {k : Env → Prop} : setDK e i d k = k (setD e i (some d)) := by
  induction e generalizing i k with
  | nil => rfl
  | cons x e ih =>
    cases i with
    | zero => cases x <;> rfl
    | succ i =>
      rw [setDK_s, ih]
      unfold setD
      simp only [List.getElem?_cons_succ]
      cases e[i]? with
      | none => rfl
      | some y => cases y <;> rfl
@[simp ↓] def putBK : List Arg → List (Option D) → Env → (Env → Prop) → Prop
  | .sl i :: as, some d :: ms, e, k => setDK e i d fun e' => putBK as ms e' k
  | .sl i :: as, none :: ms, e, k => putBK as ms (setD e i none) k
  | .sl i :: as, [], e, k => putBK as [] (setD e i none) k
  | .dv _ _ :: as, _ :: ms, e, k => putBK as ms e k
  | .dv _ _ :: as, [], e, k => putBK as [] e k
  | .ln _ :: as, _ :: ms, e, k => putBK as ms e k
  | .ln _ :: as, [], e, k => putBK as [] e k
  | [], _, e, k => k e
theorem putBK_eq : ∀ {as : List Arg} {ms : List (Option D)} {e : Env} {k : Env → Prop}, putBK as ms e k = k (putB as ms e)
  | [], ms, e, k => by cases ms <;> rfl
  | .sl i :: as, some d :: ms, e, k => by simp only [putBK, putBK_eq, setDK_eq, putB]
  | .sl i :: as, none :: ms, e, k => by simp only [putBK, putBK_eq, putB]
  | .sl i :: as, [], e, k => by simp only [putBK, putBK_eq, putB]
  | .dv _ _ :: as, _ :: ms, e, k => by simp only [putBK, putBK_eq, putB]
  | .dv _ _ :: as, [], e, k => by simp only [putBK, putBK_eq, putB]
  | .ln _ :: as, _ :: ms, e, k => by simp only [putBK, putBK_eq, putB]
  | .ln _ :: as, [], e, k => by simp only [putBK, putBK_eq, putB]
@[simp ↓] def outK (as : List Arg) (e : Env) (R : DQ) (Ex : DX) : DOut → Prop
  | .ret d md ms => putBK as ms e (R d md)
  | .exc x ms => putBK as ms e (Ex x)
@[simp ↓] theorem callK_ev {pm : List PMd} {dvs : List D} {sp : DSp} {as : List Arg} {e : Env} {R : DQ} {Ex : DX} : callK pm dvs sp as e R Ex = argsK pm as e fun ds => slOkK pm as e ∧ (sls as).Nodup ∧ (∀ i ∈ lns as, i ∉ sls as) ∧ (sls as = [] ∨ (looks as = false ∧ noviewE e = true)) ∧ as.length + dvs.length = pm.length ∧ (pm.drop as.length).all PMd.plain = true ∧ callN sp ds dvs (outK as e R Ex) := by
  apply propext
  rw [argsK_iff]
  unfold callK
  have : (fun out => match out with
    | .ret d md ms => R d md (putB as ms e)
    | .exc x ms => Ex x (putB as ms e)) = outK as e R Ex := by
    funext o
    cases o <;> simp only [outK, putBK_eq]
  cases argsD pm as e with
  | none => rfl
  | some ds =>
    have z : callN sp ds dvs (outK as e R Ex) = sp (ds ++ dvs) (outK as e R Ex) := rfl
    dsimp only
    rw [z, ← this, slOkK_iff]
    all_goals exact Iff.rfl
/-- a call of a def that changes nothing -/
@[simp ↓] def outP (e : Env) (R : DQ) (Ex : DX) : DOut → Prop
  | .ret d md _ => R d md e
  | .exc x _ => Ex x e
def callP (pm : List PMd) (dvs : List D) (sp : DSp) (as : List Arg) (e : Env) (R : DQ) (Ex : DX) : Prop := argsK pm as e fun ds => as.length + dvs.length = pm.length ∧ callN sp ds dvs (outP e R Ex)
@[simp ↓] theorem callP_ev {pm : List PMd} {dvs : List D} {sp : DSp} {as : List Arg} {e : Env} {R : DQ} {Ex : DX} : callP pm dvs sp as e R Ex = argsK pm as e fun ds => as.length + dvs.length = pm.length ∧ callN sp ds dvs (outP e R Ex) := rfl
@[simp ↓] def dCallP (pm : List PMd) (dvs : List D) (sp : DSp) (m : DU) : DE := fun env R Ex => m env (fun as e => callP pm dvs sp as e R Ex) Ex
theorem putB_plain : ∀ {as : List Arg} {ms : List (Option D)} {e : Env}, sls as = [] → putB as ms e = e
  | [], ms, e, _ => by cases ms <;> rfl
  | .sl i :: as, ms, e, h => by simp [sls] at h
  | .dv _ _ :: as, [], e, h => by simp only [putB]; exact putB_plain (by simpa [sls] using h)
  | .dv _ _ :: as, _ :: ms, e, h => by simp only [putB]; exact putB_plain (by simpa [sls] using h)
  | .ln _ :: as, [], e, h => by simp only [putB]; exact putB_plain (by simpa [sls] using h)
  | .ln _ :: as, _ :: ms, e, h => by simp only [putB]; exact putB_plain (by simpa [sls] using h)
theorem slOk_plain : ∀ {pm : List PMd} {as : List Arg} {e : Env}, sls as = [] → slOk pm as e
  | [], _, _, _ => by simp [slOk]
  | p :: ps, [], _, _ => by cases p <;> simp [slOk]
  | p :: ps, .sl i :: as, e, h => by simp [sls] at h
  | p :: ps, .dv _ _ :: as, e, h => by
    have := slOk_plain (pm := ps) (as := as) (e := e) (by simpa [sls] using h)
    cases p <;> simpa [slOk] using this
  | p :: ps, .ln _ :: as, e, h => by
    have := slOk_plain (pm := ps) (as := as) (e := e) (by simpa [sls] using h)
    cases p <;> simpa [slOk] using this
theorem callP_K {pm : List PMd} {dvs : List D} {sp : DSp} {as : List Arg} {e : Env} {R : DQ} {Ex : DX} (mono : SpM sp) (hp : pm.all PMd.plain = true) (h : callP pm dvs sp as e R Ex) : callK pm dvs sp as e R Ex := by
  unfold callP at h
  rw [argsK_iff] at h
  unfold callK
  cases hds : argsD pm as e with
  | some ds =>
    rw [hds] at h
    have hs := sls_plain hp hds
    refine ⟨slOk_plain hs, by rw [hs]; exact List.nodup_nil, fun i _ => by rw [hs]; exact List.not_mem_nil, .inl hs, h.1, List.all_eq_true.mpr fun x hx => List.all_eq_true.mp hp x (List.mem_of_mem_drop hx), mono _ _ _ (fun o q => ?_) h.2⟩
    cases o with
    | ret d md ms => simp only [outP] at q; dsimp only; rw [putB_plain hs]; exact q
    | exc x ms => simp only [outP] at q; dsimp only; rw [putB_plain hs]; exact q
  | none => rw [hds] at h; exact h.elim
section
variable {X : Cx} {W : WX} {p : Bool}
theorem call_tDP {k : Nat} {pm : List PMd} {dvs : List D} {sp : DSp} {m : DU} {dw : List V} (mono : SpM sp) (hd : ∀ Z, DvA X.K Z dw dvs) (hp : pm.all PMd.plain = true) {σ : L2.St} {H : Hp} {Q : VK} (h : tD X.K W p (dCallP pm dvs sp m) σ H Q) :
    tDU X.K W p m σ H fun vs H1 => lift X.K pm sp (vs ++ dw) H1 Q (WE W σ) := by
  obtain ⟨G, F0, F1, env, tv, te, R, Ex, S, l1, l2, nv, wo, hm', hk⟩ := h
  refine ⟨G, F0, F1, env, tv, te, _, Ex, S, l1, l2, nv, wo, hm', fun xs as F2 H2 env2 q l3 ln at' S2 => ?_⟩
  refine call_core mono S2 l3 l2 ln at' (.inl ?_) (callP_K mono hp q) hd hk fun x env' cls dx F' H' ex le S' xr => wo.use ex le S' xr
  have q2 := callP_K mono hp q
  unfold callK at q2
  split at q2
  · rename_i ds hds
    exact sls_plain hp hds
  · exact q2.elim
theorem pd_callP {x : Str} {q pos : Pos} {e : Expr} {es : List Expr} {k : Nat} {pm : List PMd} {dvs : List D} {sp : DSp} {m : DU} (tk : Takes X W) (D : DFun X.prog X.w X.K X.mg X.base k x pm sp dvs) (hr : Room k X.A) (hg : Gl X x)
    (ha : PDU X W p (e :: es) m) (hp : pm.all PMd.plain = true := by rfl) (hdb : (x == ("__debug__" : Str)) = false := by decide) (he : starEach (e :: es) X.env = (false, eval e X.env) :: starEach es X.env := by rfl) (hpl : (backTo pos (starEach es X.env)).any (·.1) = false := by rfl) :
    PD X W p (.Call (.Name x q) (e :: es) [] pos) (dCallP pm dvs sp m) := by
  obtain ⟨f, fd, ps, df, dw, hm, hkp, F, hb, hv, hd⟩ := D.ex
  exact PE.imp (pe_callSD (E := WE W) F hr hg hm hkp hb hv (passAt tk) ha hdb he hpl) fun σ H Q h => call_tDP (k := k) D.mono hd hp h
end
end DL
/-! D layer, part 17: is True; loops and comprehensions by invariants; slots of which nothing is known. -/
namespace DL
open PySem PySem.Spec PyProof.Rows L2

@[simp ↓] def δIsB (neg : Bool) : DR2 := fun x _ y _ R => match x, y with
  | .bl a, .bl b => R (.bl (if neg then !decide (a = b) else decide (a = b))) .frz
  | _, _ => False
section
variable {X : Cx} {W : WX} {p1 p2 : Bool} {a b : Expr} {pos : Pos} {ma mb : DE}
theorem od_isB {K : PySem.W.Frag} : OpD K (fun x y H Q => ∃ a b, x = .bl a ∧ y = .bl b ∧ Q (.bl (decide (a = b))) H) (δIsB false) := fun G F0 F H vs es x y dx dy mx my Q R hl S hδ hk => by
  obtain ⟨d1, d2⟩ := S.two hl
  unfold δIsB at hδ
  split at hδ
  · cases d1; cases d2
    exact ⟨_, _, rfl, rfl, hk _ _ _ F H hδ (S.done hl (.bl _))⟩
  · exact hδ.elim
theorem od_isnotB {K : PySem.W.Frag} : OpD K (fun x y H Q => ∃ a b, x = .bl a ∧ y = .bl b ∧ Q (.bl (!decide (a = b))) H) (δIsB true) := fun G F0 F H vs es x y dx dy mx my Q R hl S hδ hk => by
  obtain ⟨d1, d2⟩ := S.two hl
  unfold δIsB at hδ
  split at hδ
  · cases d1; cases d2
    exact ⟨_, _, rfl, rfl, hk _ _ _ F H hδ (S.done hl (.bl _))⟩
  · exact hδ.elim
theorem pd_isB (ha : PD X W p1 a ma) (hb : PD X W p2 b mb) : PD X W (p1 && p2) (.Compare a [.Is] [b] pos) (dBin p2 ma mb (δIsB false)) := pd_cmp op_is_bl od_isB ha hb (nobehind _ (by decide) (by decide))
theorem pd_isnotB (ha : PD X W p1 a ma) (hb : PD X W p2 b mb) : PD X W (p1 && p2) (.Compare a [.IsNot] [b] pos) (dBin p2 ma mb (δIsB true)) := pd_cmp op_isnot_bl od_isnotB ha hb (nobehind _ (by decide) (by decide))
theorem pdt_isB (ha : PD X W p1 a ma) (hb : PD X W p2 b mb) : PDT X W (p1 && p2) (.Compare a [.Is] [b] pos) (dB (dBin p2 ma mb (δIsB false))) := pdt_cmp op_is_bl od_isB ha hb (nobehind _ (by decide) (by decide))
theorem pdt_isnotB (ha : PD X W p1 a ma) (hb : PD X W p2 b mb) : PDT X W (p1 && p2) (.Compare a [.IsNot] [b] pos) (dB (dBin p2 ma mb (δIsB true))) := pdt_cmp op_isnot_bl od_isnotB ha hb (nobehind _ (by decide) (by decide))
end

/-- a slot of which nothing is asked -/
def Lo : Slot → Prop
  | none => True
  | some (_, .frz) => True
  | some (_, .lent) => True
  | some (_, .own _) => True
  | _ => False
theorem Lo.o {d : D} {m : Mask} : Lo (some (d, .own m)) := trivial
theorem Lo.l {d : D} : Lo (some (d, .lent)) := trivial
theorem Lo.n : Lo none := trivial
theorem Lo.s {d : D} : Lo (some (d, .frz)) := trivial
theorem nb_lo {s : Slot} {e : Env} (h : Lo s) : nbK (s :: e) 0 = True := by
  cases s with
  | none => rfl
  | some p => obtain ⟨d, md⟩ := p; cases md <;> first | rfl | exact h.elim
theorem nv_lo {s : Slot} {e : Env} (h : Lo s) : noviewE (s :: e) = noviewE e := by
  unfold noviewE
  rw [List.all_cons]
  cases s with
  | none => rfl
  | some p => obtain ⟨d, md⟩ := p; cases md <;> first | rfl | exact h.elim
/-- a for loop, by an invariant of the environment -/
theorem forIter_inv {g : DG} {m : DS} {E : DEnds} (J : List (D × Md) → Env → Prop) (hend : ∀ e, J [] e → E.nx e)
    (hstep : ∀ d md ds e, J ((d, md) :: ds) e → ∀ E' : DEnds, (∀ e', J ds e' → E'.nx e') → (∀ e', J ds e' → E'.ct e') → E'.bk = E.nx → E'.rt = E.rt → E'.ex = E.ex → g d md e (fun e1 => m e1 E') E.ex) :
    ∀ (ds : List (D × Md)) (e : Env), J ds e → forIter g m ds e E
  | [], e, h => hend e h
  | (d, md) :: ds, e, h => hstep d md ds e h _ (fun e' h' => forIter_inv J hend hstep ds e' h') (fun e' h' => forIter_inv J hend hstep ds e' h') rfl rfl rfl
/-- a list comprehension, by an invariant of what is made so far and of the environment -/
theorem lcIter_inv {vs : List Nat} {g : DG} {tt : DT} {elt : DE} {R : List D → Env → Prop} (J : List (D × Md) → List D → Env → Prop) (hend : ∀ acc e, J [] acc e → R acc e)
    (hstep : ∀ d md ds acc e, J ((d, md) :: ds) acc e → ∀ R1 : List D → Env → Prop, (∀ acc' e', J ds acc' e' → R1 acc' e') →
      g d md e (fun e1 => tt e1 (fun b e2 => if b = true then elt e2 (fun y my e3 => capB y my = true ∧ noviewE e3 = true ∧ acc.length < sizeLine ∧ R1 (acc ++ [y]) (wipeE e3 vs)) nox else R1 acc (wipeE e2 vs)) nox) nox) :
    ∀ (ds : List (D × Md)) (acc : List D) (e : Env), J ds acc e → lcIter vs g tt elt ds e acc R
  | [], acc, e, h => hend acc e h
  | (d, md) :: ds, acc, e, h => hstep d md ds acc e h (fun acc' e' => lcIter vs g tt elt ds e' acc' R) fun acc' e' h' => lcIter_inv J hend hstep ds acc' e' h'
end DL
namespace DL
open PySem PySem.Spec PyProof.Rows L2
/-! ### numbers: is_number, checked_number -/
abbrev pm_is_number : List PMd := [.l, .l, .l]
abbrev pm_checked_number : List PMd := [.l, .l, .l]
def plainD : D → Prop
  | .obj _ _ => False
  | .scr _ => False
  | _ => True
def strOk (i : Int) : Prop := i.natAbs.log2 < 1920 ∧ (Str.ofString i.repr).length ≤ 1000
def isNum (d : D) (lo hi : Int) : Bool := match d with
  | .int i => decide (lo ≤ i) && decide (i ≤ hi)
  | _ => false
/-- an int of 0 .. 10^6 -/
def chk (d : D) : Option Int := match d with
  | .int i => if 0 ≤ i ∧ i ≤ 1000000 then some i else none
  | _ => none
def exD (c : Xf) (x : Str) : XD := ⟨.ref (c.a x), []⟩
def sp_is_number : DSp := fun ds Q => match ds with
  | [d, .int lo, .int hi] => plainD d ∧ Q (.ret (.bl (isNum d lo hi)) .frz [none, none, none])
  | _ => False
def sp_checked_number (c : Xf) : DSp := fun ds Q => match ds with
  | [d, .int lo, .int hi] => plainD d ∧ strOk lo ∧ strOk hi ∧ if isNum d lo hi = true then Q (.ret d .frz [none, none, none]) else Q (.exc (exD c "InvalidNumber") [none, none, none])
  | _ => False
def m_is_number (c : Xf) : DS :=
 (dRet (dAnd (dIsi .int (dSlot 0)) (dAnd (dNot (dIsi .bool (dSlot 0))) (dChainI true true (fun i j => decide (i ≤ j)) (fun i j => decide (i ≤ j)) (dSlot 1) (dSlot 0) (dSlot 2)))))
def m_checked_number (c : Xf) : DS :=
 (dSeq (dIfS (dNotT (dTruth (dCallP pm_is_number [] sp_is_number (uLn 0 (uLn 1 (uLn 2 uNil)))))) (dRaise (c.a "InvalidNumber") (dCons true (dBin true (dBin true (dBin true (dC (.str "no number from ")) (dBi (dCons true (dSlot 1) dNil) (δ1 strOf strC)) δAdd) (dC (.str " to ")) δAdd) (dBi (dCons true (dSlot 2) dNil) (δ1 strOf strC)) δAdd) dNil)) dNext)
 (dRet (dMove 0)))
theorem str_len_add (a b : PySem.Str) : (a ++ b).length = a.length + b.length := Array.size_append
theorem d_is_number (c : Xf) (ds : List D) (vs : List V) (Q : DOut → Prop) (h1 : ds.length = 3) (h2 : vs.length = 3) (h : sp_is_number ds Q) : m_is_number c (defEnv pm_is_number ds vs 0) (defEnds pm_is_number vs Q) := by
  match vs, h2 with
  | [v0, v1, v2], _ =>
    unfold sp_is_number at h
    split at h
    · rename_i d lo hi
      obtain ⟨hp, hq⟩ := h
      show m_is_number c [some (d, .lent), some (.int lo, .lent), some (.int hi, .lent)] _
      cases d <;> simp only [plainD] at hp <;> simp_all [m_is_number, isNum]
      split <;> simp_all
    · exact h.elim
theorem d_checked_number (c : Xf) (ds : List D) (vs : List V) (Q : DOut → Prop) (h1 : ds.length = 3) (h2 : vs.length = 3) (h : sp_checked_number c ds Q) : m_checked_number c (defEnv pm_checked_number ds vs 0) (defEnds pm_checked_number vs Q) := by
  match vs, h2 with
  | [v0, v1, v2], _ =>
    unfold sp_checked_number at h
    split at h
    · rename_i d lo hi
      obtain ⟨hp, hl, hh, hq⟩ := h
      show m_checked_number c [some (d, .lent), some (.int lo, .lent), some (.int hi, .lent)] _
      cases e : isNum d lo hi
      · simp [m_checked_number, sp_is_number, hp, e, hl.1, hh.1] at hq ⊢
        have l1 : (Str.ofString "no number from ").length = 15 := by decide +kernel
        have l2 : (Str.ofString " to ").length = 4 := by decide +kernel
        have l3 := hl.2
        have l4 := hh.2
        rw [str_len_add, str_len_add, str_len_add, l1, l2]
        refine ⟨?_, ?_, ?_, ?_, hq⟩ <;> unfold sizeLine <;> omega
      · cases d <;> simp [isNum] at e
        simp_all [m_checked_number, sp_is_number, plainD, isNum]
    · exact h.elim
/-! ### fractions -/
abbrev pm_common : List PMd := [.l, .l]
abbrev pm_frac : List PMd := [.l, .l]
abbrev pm__law_fr : List PMd := [.l, .l]
/-- a fraction in least terms -/
def fr (q : Rat) : D := .tup [.int q.num, .int q.den]
/-- numbers of less than 8000 bits -/
def B8 (i : Int) : Prop := i.natAbs < 2 ^ 8000
def sp_common : DSp := fun ds Q => match ds with
  | [.int a, .int b] => B8 a ∧ B8 b ∧ Q (.ret (.int (Int.gcd a b : Nat)) .frz [none, none])
  | _ => False
def sp_frac (c : Xf) : DSp := fun ds Q => match ds with
  | [.int a, .int b] => B8 a ∧ 0 ≤ b ∧ B8 b ∧ if b = 0 then Q (.exc (exD c "InvalidNumber") [none, none]) else Q (.ret (fr (Rat.divInt a b)) .frz [none, none])
  | _ => False
def sp__law_fr : DSp := fun ds Q => match ds with
  | [.int a, .int b] => B8 a ∧ 0 < b ∧ B8 b ∧ Q (.ret (fr (Rat.divInt a b)) .frz [none, none])
  | _ => False
def m_common_t1 (c : Xf) : DT :=
 (dB (dBin true (dSlot 1) (dC (.int 0)) δGt))
def m_common_b1 (c : Xf) : DS :=
 (dPar 0 1 (dCons true (dSlotF 1) (dCons true (dBin true (dSlot 0) (dBin true (dBin true (dSlot 0) (dSlot 1) δFdiv) (dSlot 1) δMul) δSub) dNil)))
def m_common (c : Xf) : DS :=
 (dSeq (dPar 0 1 (dCons true (dBi (dCons true (dSlot 0) dNil) (δ1 absOf fun _ => True)) (dCons true (dBi (dCons true (dSlot 1) dNil) (δ1 absOf fun _ => True)) dNil)))
 (dSeq (dWhile (m_common_t1 c) (m_common_b1 c))
 (dRet (dMove 0))))
def m_frac (c : Xf) : DS :=
 (dSeq (dIfS (dB (dBin true (dSlot 1) (dC (.int 0)) (δEq false))) (dRaise (c.a "InvalidNumber") (dCons true (dC (.str "nought under")) dNil)) dNext)
 (dSeq (dAsg (dCallP pm_common [] sp_common (uLn 0 (uLn 1 uNil))) (dgName 2))
 (dSeq (dIfS (dB (dBin true (dSlot 1) (dC (.int 0)) δLt)) (dAsg (δU negOf (dSlot 2)) (dgName 2)) dNext)
 (dRet (dTup (dCons true (dBin true (dSlot 0) (dSlot 2) δFdiv) (dCons true (dBin true (dSlot 1) (dSlot 2) δFdiv) dNil)))))))
def m__law_fr_t1 (c : Xf) : DT :=
 (dB (dBin true (dSlot 3) (dC (.int 0)) δGt))
def m__law_fr_b1 (c : Xf) : DS :=
 (dPar 2 3 (dCons true (dSlotF 3) (dCons true (dBin true (dSlot 2) (dBin true (dSlot 3) (dBin true (dSlot 2) (dSlot 3) δFdiv) δMul) δSub) dNil)))
def m__law_fr (c : Xf) : DS :=
 (dSeq (dPar 2 3 (dCons true (dBi (dCons true (dSlot 0) dNil) (δ1 absOf fun _ => True)) (dCons true (dSlotF 1) dNil)))
 (dSeq (dWhile (m__law_fr_t1 c) (m__law_fr_b1 c))
 (dRet (dTup (dCons true (dBin true (dSlot 0) (dSlot 2) δFdiv) (dCons true (dBin true (dSlot 1) (dSlot 2) δFdiv) dNil))))))
theorem log2_lt' {n k : Nat} (h : n < 2 ^ k) (hk : 0 < k) : n.log2 < k := by
  by_cases hn : n = 0
  · subst hn; rw [show Nat.log2 0 = 0 by decide]; exact hk
  · exact (Nat.log2_lt hn).mpr h
theorem B8.log {i : Int} (h : B8 i) : i.natAbs.log2 < 8000 := log2_lt' h (by decide)
theorem B8.nat {a b : Nat} (h : B8 (a : Int)) (l : b ≤ a) : B8 (b : Int) := by
  unfold B8 at *
  simp only [Int.natAbs_natCast] at *
  exact Nat.lt_of_le_of_lt l h
theorem B8.le {a b : Int} (h : B8 a) (l : b.natAbs ≤ a.natAbs) : B8 b := Nat.lt_of_le_of_lt l h
theorem B8.div {a b : Int} (hb : B8 b) (h0 : 0 < b) : CDivW a b := ⟨h0, by have := hb.log; omega⟩
theorem B8.mul {a b : Int} (ha : B8 a) (hb : B8 b) : CMulW a b := by
  have := ha.log; have := hb.log
  unfold CMulW; omega
theorem natAbs_ite (i : Int) : (if i < 0 then -i else i) = (i.natAbs : Int) := by split <;> omega
theorem sub_mul_div (a b : Nat) : (a : Int) - (a : Int) / (b : Int) * (b : Int) = ((a % b : Nat) : Int) := by
  have := Int.emod_add_mul_ediv (a : Int) b
  rw [Int.natCast_emod]
  have e := Int.mul_comm ((a : Int) / b) b
  omega
theorem gcd_while {c : Xf} {E : DEnds} : ∀ (n a b : Nat), b < n → B8 (a : Int) → B8 (b : Int) → E.nx [some (.int (Nat.gcd a b : Nat), .frz), some (.int 0, .frz)] → wIter (m_common_t1 c) (m_common_b1 c) n [some (.int a, .frz), some (.int b, .frz)] E
  | 0, _, _, h, _, _, _ => absurd h (Nat.not_lt_zero _)
  | n + 1, a, b, h, ha, hb, hE => by
    unfold wIter
    by_cases h0 : b = 0
    · subst h0
      simpa [m_common_t1] using hE
    · have hp : 0 < (b : Int) := by omega
      have := gcd_while (c := c) (E := E) n b (a % b) (Nat.lt_of_lt_of_le (Nat.mod_lt _ (Nat.pos_of_ne_zero h0)) (by omega)) hb (hb.nat (Nat.le_of_lt (Nat.mod_lt _ (Nat.pos_of_ne_zero h0)))) (by rw [Nat.gcd_comm b, ← Nat.gcd_rec, Nat.gcd_comm]; exact hE)
      have hd : B8 ((a : Int) / b) := by rw [← Int.natCast_ediv]; exact ha.nat (Nat.div_le_self _ _)
      have e := sub_mul_div a b
      generalize wIter (m_common_t1 c) (m_common_b1 c) n = w at this ⊢
      simpa [m_common_t1, m_common_b1, hp, Nat.pos_of_ne_zero h0, hb.div hp, hd.mul hb, e] using this
theorem d_common (c : Xf) (ds : List D) (vs : List V) (Q : DOut → Prop) (h1 : ds.length = 2) (h2 : vs.length = 2) (h : sp_common ds Q) : m_common c (defEnv pm_common ds vs 0) (defEnds pm_common vs Q) := by
  match vs, h2 with
  | [v0, v1], _ =>
    unfold sp_common at h
    split at h
    · rename_i a b
      obtain ⟨ha, hb, hq⟩ := h
      show m_common c [some (.int a, .lent), some (.int b, .lent)] _
      simp [m_common, natAbs_ite, dWhile]
      refine ⟨b.natAbs + 1, gcd_while _ _ _ (Nat.lt_succ_self _) ?_ ?_ ?_⟩
      · exact ha
      · exact hb
      · simpa [Int.gcd] using hq
    · exact h.elim
theorem gcd_pos' {a b : Int} (h : 0 < b) : 0 < ((Int.gcd a b : Nat) : Int) := by
  have : 0 < Int.gcd a b := Int.gcd_pos_of_ne_zero_right a (by omega)
  omega
theorem gcd_B8 {a b : Int} (h : 0 < b) (hb : B8 b) : B8 ((Int.gcd a b : Nat) : Int) := by
  refine hb.le ?_
  have := Nat.le_of_dvd (by omega : 0 < b.natAbs) (Int.gcd_dvd_natAbs_right a b)
  simpa using this
theorem fr_divInt {a b : Int} (h : 0 < b) : fr (Rat.divInt a b) = .tup [.int (a / (Int.gcd a b : Nat)), .int (b / (Int.gcd a b : Nat))] := by
  unfold fr
  rw [Rat.num_divInt, Rat.den_divInt, if_neg (by omega), Int.sign_eq_one_of_pos h, Int.one_mul, Int.gcd_comm b a]
  have : ((b.natAbs / a.gcd b : Nat) : Int) = b / (a.gcd b : Nat) := by
    rw [Int.natCast_ediv, Int.natAbs_of_nonneg (by omega)]
  rw [this]
theorem shp_int (i : Int) : shp (.int i) := by simp [shp, toP, SeqAt.shaped, PyData.canLay0, PyData.depth]
theorem deq_int (i j : Int) : deq (.int i) (.int j) = decide (i = j) := by
  simp only [deq, toP, PyData.eqv]
  rw [Bool.eq_iff_iff]; simp
theorem d_frac (c : Xf) (ds : List D) (vs : List V) (Q : DOut → Prop) (h1 : ds.length = 2) (h2 : vs.length = 2) (h : sp_frac c ds Q) : m_frac c (defEnv pm_frac ds vs 1) (defEnds pm_frac vs Q) := by
  match vs, h2 with
  | [v0, v1], _ =>
    unfold sp_frac at h
    split at h
    · rename_i a b
      obtain ⟨ha, h0, hb, hq⟩ := h
      show m_frac c [some (.int a, .lent), some (.int b, .lent), none] _
      by_cases e : b = 0
      · subst e
        simp [exD] at hq
        simp [m_frac, shp_int, deq_int, hq, sizeLine]
      · have hp : 0 < b := by omega
        rw [if_neg e, fr_divInt hp] at hq
        have np : ¬ b < 0 := by omega
        simp [m_frac, shp_int, deq_int, sp_common, ha, hb, e, np, (gcd_B8 (a := a) hp hb).div (gcd_pos' hp), sizeLine, hq]
    · exact h.elim
theorem frW {c : Xf} {E : DEnds} {x y : Slot} : ∀ (n a b : Nat), b < n → B8 (a : Int) → B8 (b : Int) → E.nx [x, y, some (.int (Nat.gcd a b : Nat), .frz), some (.int 0, .frz)] → wIter (m__law_fr_t1 c) (m__law_fr_b1 c) n [x, y, some (.int a, .frz), some (.int b, .frz)] E
  | 0, _, _, h, _, _, _ => absurd h (Nat.not_lt_zero _)
  | n + 1, a, b, h, ha, hb, hE => by
    unfold wIter
    by_cases h0 : b = 0
    · subst h0
      simpa [m__law_fr_t1] using hE
    · have hp : 0 < (b : Int) := by omega
      have := frW (c := c) (E := E) (x := x) (y := y) n b (a % b) (Nat.lt_of_lt_of_le (Nat.mod_lt _ (Nat.pos_of_ne_zero h0)) (by omega)) hb (hb.nat (Nat.le_of_lt (Nat.mod_lt _ (Nat.pos_of_ne_zero h0)))) (by rw [Nat.gcd_comm b, ← Nat.gcd_rec, Nat.gcd_comm]; exact hE)
      have hd : B8 ((a : Int) / b) := by rw [← Int.natCast_ediv]; exact ha.nat (Nat.div_le_self _ _)
      have e := sub_mul_div a b
      rw [Int.mul_comm] at e
      generalize wIter (m__law_fr_t1 c) (m__law_fr_b1 c) n = w at this ⊢
      simpa [m__law_fr_t1, m__law_fr_b1, hp, Nat.pos_of_ne_zero h0, hb.div hp, hb.mul hd, e] using this
theorem d__law_fr (c : Xf) (ds : List D) (vs : List V) (Q : DOut → Prop) (h1 : ds.length = 2) (h2 : vs.length = 2) (h : sp__law_fr ds Q) : m__law_fr c (defEnv pm__law_fr ds vs 2) (defEnds pm__law_fr vs Q) := by
  match vs, h2 with
  | [v0, v1], _ =>
    unfold sp__law_fr at h
    split at h
    · rename_i a b
      obtain ⟨ha, h0, hb, hq⟩ := h
      rw [fr_divInt h0] at hq
      have e : (if a < 0 then -a else a) = ((a.natAbs : Nat) : Int) := natAbs_ite a
      obtain ⟨b', rfl⟩ : ∃ b' : Nat, b = b' := ⟨b.natAbs, by omega⟩
      show m__law_fr c [some (.int a, .lent), some (.int b', .lent), none, none] _
      simp [m__law_fr, dWhile, e]
      refine ⟨b' + 1, frW _ _ _ (Nat.lt_succ_self _) ha hb ?_⟩
      have g1 := (gcd_B8 (a := a) h0 hb).div (a := a) (gcd_pos' h0)
      have g2 := (gcd_B8 (a := a) h0 hb).div (a := b') (gcd_pos' h0)
      have e3 : Int.gcd a b' = Nat.gcd a.natAbs b' := rfl
      rw [e3] at g1 g2 hq
      simp [g1, g2, sizeLine]
      exact hq
    · exact h.elim
/-! ### the script's numbers -/
abbrev pm__law_next : List PMd := [.m (.o .f), .l]
/-- the state of the draws -/
def StOk (d : D) : Prop := ∃ (ns : List Int) (p : Nat) (v s : Int), d = .lst [.lst (ns.map D.int), .int p, .int v, .int s] ∧ ns.length ≤ 63 ∧ p ≤ 63 ∧ 0 ≤ v ∧ 0 ≤ s ∧ s < 2147483647
def sp__law_next : DSp := fun ds Q => match ds with
  | [d, .int n] => StOk d ∧ 0 < n ∧ n < 2 ^ 40 ∧ ∀ d' r, StOk d' → 0 ≤ r → r < n → Q (.ret (.int r) .frz [some d', none])
  | _ => False
def m__law_next (c : Xf) : DS :=
 (dSeq (dIfS (dAndT (dB (dBin true (dBin true (dSlot 0) (dC (.int 2)) δIx) (dC (.int 0)) (δEq false))) (dB (dBin true (dBin true (dSlot 0) (dC (.int 1)) δIx) (dBi (dCons true (dBin true (dSlot 0) (dC (.int 0)) δIx) dNil) (δ1 lenOf lenC)) δLt))) (dSeq (dAsg (dBin true (dBin true (dSlot 0) (dC (.int 0)) δIx) (dBin true (dSlot 0) (dC (.int 1)) δIx) δIx) (dgName 2))
 (dSeq (dAugS 0 (fun a b => a + b) (dC (.int 1)) (dC (.int 1)))
 (dIfS (dB (dBin true (dSlot 2) (dBin true (dC (.int 10)) (dC (.int 18)) δPow) δGe)) (dAsg (dSlotF 2) (dgSub 0 true (dC (.int 2)))) (dAsg (dBin true (dBi (dCons true (dBin true (dBin true (dBin true (dBin true (dSlot 0) (dC (.int 3)) δIx) (dC (.int 48271)) δMul) (dBin true (dBi (dCons true (dSlot 2) dNil) (δ1 intOf fun _ => True)) (dC (.int 2147483647)) δMod) δAdd) (dC (.int 7)) δAdd) dNil) (δ1 intOf fun _ => True)) (dC (.int 2147483647)) δMod) (dgSub 0 true (dC (.int 3))))))) dNext)
 (dSeq (dIfS (dB (dBin true (dBin true (dSlot 0) (dC (.int 2)) δIx) (dC (.int 0)) δGt)) (dSeq (dAsg (dBin true (dBi (dCons true (dBin true (dSlot 0) (dC (.int 2)) δIx) dNil) (δ1 intOf fun _ => True)) (dSlot 1) δMod) (dgName 3))
 (dSeq (dAsg (dBin true (dBin true (dSlot 0) (dC (.int 2)) δIx) (dSlot 1) δFdiv) (dgSub 0 true (dC (.int 2))))
 (dRet (dMove 3)))) dNext)
 (dSeq (dAsg (dBin true (dBi (dCons true (dBin true (dBin true (dBin true (dSlot 0) (dC (.int 3)) δIx) (dC (.int 69621)) δMul) (dC (.int 12345)) δAdd) dNil) (δ1 intOf fun _ => True)) (dC (.int 2147483647)) δMod) (dgSub 0 true (dC (.int 3))))
 (dRet (dBin true (dBi (dCons true (dBin true (dBin true (dSlot 0) (dC (.int 3)) δIx) (dC (.int 7)) δFdiv) dNil) (δ1 intOf fun _ => True)) (dSlot 1) δMod)))))
theorem mulS {i j : Int} (hi : i.natAbs < 2 ^ 64) (hj : j.natAbs < 2 ^ 64) : CMulW i j := by
  have := log2_lt' hi (by decide)
  have := log2_lt' hj (by decide)
  unfold CMulW; omega
theorem divS {i j : Int} (h0 : 0 < j) (h1 : j < 2 ^ 64) : CDivW i j := ⟨h0, by have := log2_lt' (n := j.natAbs) (k := 64) (by omega) (by decide); omega⟩
theorem atI_nat {xs : List D} {p : Nat} (h : p < xs.length) : atI xs (p : Int) = some xs[p] := by
  have : ixN xs.length (p : Int) = some p := by unfold ixN; rw [if_pos (by omega), if_pos (by omega)]; simp
  unfold atI
  rw [this]
  exact List.getElem?_eq_getElem h
theorem at4_0 {a b c d : D} : atI [a, b, c, d] 0 = some a := rfl
theorem at4_1 {a b c d : D} : atI [a, b, c, d] 1 = some b := rfl
theorem at4_2 {a b c d : D} : atI [a, b, c, d] 2 = some c := rfl
theorem at4_3 {a b c d : D} : atI [a, b, c, d] 3 = some d := rfl
theorem d__law_next (c : Xf) (ds : List D) (vs : List V) (Q : DOut → Prop) (h1 : ds.length = 2) (h2 : vs.length = 2) (h : sp__law_next ds Q) : m__law_next c (defEnv pm__law_next ds vs 2) (defEnds pm__law_next vs Q) := by
  match vs, h2 with
  | [v0, v1], _ =>
    unfold sp__law_next at h
    split at h
    · rename_i d n
      obtain ⟨⟨ns, p, v, s, rfl, hn, hp, hv, hs, hs2⟩, n0, n1, hq⟩ := h
      show m__law_next c [some (.lst [.lst (ns.map D.int), .int p, .int v, .int s], .brw (.o .f) v0), some (.int n, .lent), none, none] _
      have e0 : ixN 4 0 = some 0 := by decide
      have e1 : ixN 4 1 = some 1 := by decide
      have e2 : ixN 4 2 = some 2 := by decide
      have e3 : ixN 4 3 = some 3 := by decide
      have m1 : CMulW s 48271 := mulS (by omega) (by decide)
      have m2 : ∀ z : Int, CMulW (z % 2147483647) 69621 := fun z => mulS (by omega) (by decide)
      have m3 : CMulW s 69621 := mulS (by omega) (by decide)
      have d1 : ∀ z : Int, CDivW z n := fun z => divS n0 (by omega)
      have d2 : ∀ z : Int, CDivW z 7 := fun z => divS (by decide) (by decide)
      have pw : CPow 10 18 := ⟨by decide, by decide, by decide⟩
      have fin : ∀ (p' : Nat) (pp v' s' r : Int), pp = p' → p' ≤ 63 → 0 ≤ v' → 0 ≤ s' → s' < 2147483647 → 0 ≤ r → r < n → Q (.ret (.int r) .frz [some (.lst [.lst (ns.map D.int), .int pp, .int v', .int s']), none]) :=
        fun p' pp v' s' r e a1 a2 a3 a4 a5 a6 => e ▸ hq _ _ ⟨ns, p', v', s', rfl, hn, a1, a2, a3, a4⟩ a5 a6
      have vd : ∀ z : Int, 0 ≤ z → 0 ≤ z / n := fun z hz => Int.ediv_nonneg hz (by omega)
      have vm : ∀ z : Int, 0 ≤ z % n ∧ z % n < n := fun z => ⟨Int.emod_nonneg _ (by omega), Int.emod_lt_of_pos _ n0⟩
      by_cases hv0 : v = 0
      · subst hv0
        by_cases hpn : p < ns.length
        · have ha : atI (ns.map D.int) (p : Int) = some (.int ns[p]) := by rw [atI_nat (by simpa using hpn)]; simp
          by_cases hc : 1000000000000000000 ≤ ns[p]
          · have : 0 < ns[p] := by omega
            simp [m__law_next, at4_0, at4_1, at4_2, at4_3, e0, e1, e2, e3, hpn, shp_int, deq_int, ha, hc, pw, this, d1, n0]
            exact fin (p + 1) _ _ _ _ (by omega) (by omega) (vd _ (by omega)) hs hs2 (vm _).1 (vm _).2
          · simp [m__law_next, at4_0, at4_1, at4_2, at4_3, e0, e1, e2, e3, hpn, shp_int, deq_int, ha, hc, pw, d1, d2, m1, m2, m3, n0]
            exact fin (p + 1) _ _ _ _ (by omega) (by omega) (by omega) (by omega) (by omega) (vm _).1 (vm _).2
        · simp [m__law_next, at4_0, at4_1, at4_2, at4_3, e0, e1, e2, e3, hpn, shp_int, deq_int, pw, d1, d2, m1, m2, m3, n0]
          exact fin p _ _ _ _ rfl hp (by omega) (by omega) (by omega) (vm _).1 (vm _).2
      · have : 0 < v := by omega
        simp [m__law_next, at4_0, at4_1, at4_2, at4_3, e0, e1, e2, e3, hv0, shp_int, deq_int, pw, this, d1, d2, m1, m2, m3, n0]
        exact fin p _ _ _ _ rfl hp (vd _ hv) hs hs2 (vm _).1 (vm _).2
    · exact h.elim
/-! ### of one kind all through, and the same -/
abbrev pm__law_same : List PMd := [.l, .l]
mutual
def nice : D → Prop
  | .non => True
  | .bl _ => True
  | .int _ => True
  | .str x => PyData.strOk x = true
  | .tup xs => xs.length ≤ sizeLine ∧ niceA xs
  | .lst xs => xs.length ≤ sizeLine ∧ niceA xs
  | _ => False
def niceA : List D → Prop
  | [] => True
  | d :: ds => nice d ∧ niceA ds
end
mutual
def dep : D → Nat
  | .tup xs => depA xs + 1
  | .lst xs => depA xs + 1
  | _ => 0
def depA : List D → Nat
  | [] => 0
  | d :: ds => max (dep d) (depA ds)
end
theorem niceA_get : ∀ {ds : List D} {i : Nat} {d : D}, niceA ds → ds[i]? = some d → nice d
  | [], i, d, _, h => by simp at h
  | x :: xs, 0, d, h, e => by simp at e; subst e; exact h.1
  | x :: xs, i + 1, d, h, e => niceA_get (i := i) h.2 (by simpa using e)
theorem depA_get : ∀ {ds : List D} {i : Nat} {d : D}, ds[i]? = some d → dep d ≤ depA ds
  | [], i, d, h => by simp at h
  | x :: xs, 0, d, e => by simp at e; subst e; exact Nat.le_max_left _ _
  | x :: xs, i + 1, d, e => Nat.le_trans (depA_get (i := i) (by simpa using e)) (Nat.le_max_right _ _)
def sp__law_same (n : Nat) : DSp := fun ds Q => match ds with
  | [a, e] => nice a ∧ nice e ∧ dep e < n ∧ ∀ b : Bool, (b = true ↔ a = e) → Q (.ret (.bl b) .frz [none, none])
  | _ => False
def m__law_same_b1 (c : Xf) (n : Nat) : DS :=
 (dIfS (dNotT (dTruth (dCallP pm__law_same [] (sp__law_same n) (uVal true (dBin true (dSlot 0) (dSlot 2) δIx) (uVal true (dBin true (dSlot 1) (dSlot 2) δIx) uNil))))) (dRet (dC (.bl false))) dNext)
def m__law_same (c : Xf) (n : Nat) : DS :=
 (dSeq (dIfS (dB (dBin true (dSlot 1) (dC .non) (δIs false))) (dRet (dBin true (dSlot 0) (dC .non) (δIs false))) dNext)
 (dSeq (dIfS (dTruth (dIsi .bool (dSlot 1))) (dRet (dAnd (dIsi .bool (dSlot 0)) (dBin true (dSlot 0) (dSlot 1) (δEq false)))) dNext)
 (dSeq (dIfS (dTruth (dIsi .int (dSlot 1))) (dRet (dAnd (dIsi .int (dSlot 0)) (dAnd (dNot (dIsi .bool (dSlot 0))) (dBin true (dSlot 0) (dSlot 1) (δEq false))))) dNext)
 (dSeq (dIfS (dTruth (dIsi .str (dSlot 1))) (dRet (dAnd (dIsi .str (dSlot 0)) (dBin true (dSlot 0) (dSlot 1) (δEq false)))) dNext)
 (dSeq (dIfS (dAndT (dTruth (dIsi .tuple (dSlot 1))) (dNotT (dTruth (dIsi .tuple (dSlot 0))))) (dRet (dC (.bl false))) dNext)
 (dSeq (dIfS (dAndT (dTruth (dIsi .list (dSlot 1))) (dNotT (dTruth (dIsi .list (dSlot 0))))) (dRet (dC (.bl false))) dNext)
 (dSeq (dIfS (dTruth (dIsi .dict (dSlot 1))) dDeadS dNext)
 (dSeq (dIfS (dB (dBin true (dBi (dCons true (dSlot 0) dNil) (δ1 lenOf lenC)) (dBi (dCons true (dSlot 1) dNil) (δ1 lenOf lenC)) (δEq true))) (dRet (dC (.bl false))) dNext)
 (dSeq (dFor (diR1 (dCons true (dBi (dCons true (dSlot 1) dNil) (δ1 lenOf lenC)) dNil)) (dgName 2) (m__law_same_b1 c n))
 (dRet (dC (.bl true))))))))))))
theorem shp_bl (i : Bool) : shp (.bl i) := by simp [shp, toP, SeqAt.shaped, PyData.canLay0, PyData.depth]
theorem deq_bl (i j : Bool) : deq (.bl i) (.bl j) = decide (i = j) := by
  simp only [deq, toP, PyData.eqv]
  rw [Bool.eq_iff_iff]; simp
theorem shp_str {i : Str} (h : PyData.strOk i = true) : shp (.str i) := by simp [shp, toP, SeqAt.shaped, PyData.canLay0, PyData.depth, h]
theorem deq_str (i j : Str) : deq (.str i) (.str j) = decide (i = j) := by
  simp only [deq, toP, PyData.eqv]
  rw [Bool.eq_iff_iff]; simp
theorem rngD_eq {n : Nat} : rngD 0 n = (List.range' 0 n).map fun (k : Nat) => (D.int (k : Int), Md.frz) := by
  simp [rngD, List.range_eq_range']
theorem same_loop {c : Xf} {n : Nat} {E : DEnds} {kd : List D → D} {as es : List D} (hk : kd = .tup ∨ kd = .lst)
    (ln : as.length = es.length) (na : niceA as) (ne : niceA es) (hd : depA es < n) (hf : as ≠ es → ∀ s2, E.rt (.bl false) .frz [some (kd as, .lent), some (kd es, .lent), s2]) (hn : as = es → ∀ s2, E.nx [some (kd as, .lent), some (kd es, .lent), s2]) :
    ∀ (m i : Nat), i + m = es.length → (∀ j, j < i → as[j]? = es[j]?) → ∀ s2 : Slot, (s2 = none ∨ ∃ z, s2 = some (.int z, .frz)) → forIter (dgName 2) (m__law_same_b1 c n) ((List.range' i m).map fun (k : Nat) => (D.int (k : Int), Md.frz)) [some (kd as, .lent), some (kd es, .lent), s2] E
  | 0, i, e, h, s2, _ => by
    refine hn ?_ s2
    apply List.ext_getElem?
    intro j
    by_cases hj : j < i
    · exact h j hj
    · rw [List.getElem?_eq_none (by omega), List.getElem?_eq_none (by omega)]
  | m + 1, i, e, h, s2, h2 => by
    have hi : i < es.length := by omega
    have hi' : i < as.length := by omega
    have key := same_loop (c := c) hk ln na ne hd hf hn m (i + 1) (by omega)
    have q1 : atI as (i : Int) = some as[i] := atI_nat hi'
    have q2 : atI es (i : Int) = some es[i] := atI_nat hi
    have n1 : nice as[i] := niceA_get na (List.getElem?_eq_getElem hi')
    have n2 : nice es[i] := niceA_get ne (List.getElem?_eq_getElem hi)
    have n3 : dep es[i] < n := Nat.lt_of_le_of_lt (depA_get (List.getElem?_eq_getElem hi)) hd
    have body : ∀ b : Bool, (b = true ↔ as[i] = es[i]) → if b = true then forIter (dgName 2) (m__law_same_b1 c n) ((List.range' (i + 1) m).map fun (k : Nat) => (D.int (k : Int), Md.frz)) [some (kd as, .lent), some (kd es, .lent), some (.int i, .frz)] E else E.rt (.bl false) .frz [some (kd as, .lent), some (kd es, .lent), some (.int i, .frz)] := fun b hb => by
      cases b with
      | true =>
        rw [if_pos rfl]
        refine key (fun j hj => ?_) _ (.inr ⟨_, rfl⟩)
        by_cases hj' : j < i
        · exact h j hj'
        · have : j = i := by omega
          subst this
          rw [List.getElem?_eq_getElem hi, List.getElem?_eq_getElem hi', hb.mp rfl]
      | false =>
        rw [if_neg (by decide)]
        refine hf (fun z => ?_) _
        subst z
        exact absurd (hb.mpr rfl) (by decide)
    clear key hf hn h ne na hd
    rw [List.range'_succ, List.map_cons]
    generalize (List.range' (i + 1) m).map (fun (k : Nat) => (D.int (k : Int), Md.frz)) = L at body
    unfold forIter
    generalize forIter (dgName 2) (m__law_same_b1 c n) L = w at body
    generalize as[i] = x at q1 n1 body
    generalize es[i] = y at q2 n2 n3 body
    have fin : ∀ b : Bool, (b = true ↔ x = y) → if (!b) = true then E.rt (.bl false) .frz [some (kd as, .lent), some (kd es, .lent), some (.int i, .frz)] else w [some (kd as, .lent), some (kd es, .lent), some (.int i, .frz)] E := fun b hb => by
      have := body b hb
      cases b <;> simpa using this
    clear body
    rcases h2 with rfl | ⟨z, rfl⟩ <;> rcases hk with rfl | rfl <;> (simp [m__law_same_b1, q1, q2, sp__law_same, n1, n2, n3]; exact ⟨fun z => by simpa using fin false (by simpa using z), fun z => by simpa using fin true (by simpa using z)⟩)
theorem d__law_same (c : Xf) (n : Nat) (ds : List D) (vs : List V) (Q : DOut → Prop) (h1 : ds.length = 2) (h2 : vs.length = 2) (h : sp__law_same (n + 1) ds Q) : m__law_same c n (defEnv pm__law_same ds vs 1) (defEnds pm__law_same vs Q) := by
  match vs, h2 with
  | [v0, v1], _ =>
    unfold sp__law_same at h
    split at h
    · rename_i a e
      obtain ⟨ha, he, hd, hq⟩ := h
      show m__law_same c n [some (a, .lent), some (e, .lent), none] _
      have sI : ∀ i, shp (.int i) := shp_int
      cases e with
      | non => cases a <;> simp [nice] at ha <;> simp [m__law_same] <;> exact hq _ (by simp)
      | bl z => 
        cases a <;> simp [nice] at ha <;> simp [m__law_same, shp_bl, deq_bl] <;> exact hq _ (by simp)
      | int z => 
        cases a <;> simp [nice] at ha <;> simp [m__law_same, shp_int, deq_int] <;> exact hq _ (by simp)
      | str z => 
        cases a <;> simp [nice] at ha he <;> simp [m__law_same, deq_str, shp_str, ha, he] <;> exact hq _ (by simp)
      | tup es => 
        cases a <;> simp [nice] at ha he <;> simp [m__law_same, shp_int, deq_int] 
        case tup as =>
          by_cases ln : as.length = es.length
          · rw [if_pos (by omega)]
            simp [dFor, rngD_eq]
            rw [List.range_eq_range']
            refine ⟨by unfold sizeLine at he; omega, same_loop (.inl rfl) ln ha.2 he.2 (by simpa [dep] using hd) (fun z s2 => hq false (by simpa using z)) (fun z s2 => hq true (by simpa using z)) es.length 0 (by omega) (fun j hj => absurd hj (Nat.not_lt_zero _)) _ (.inl rfl)⟩
          · have : as ≠ es := fun z => ln (by rw [z])
            rw [if_neg (by omega)]
            exact hq false (by simpa using this)
        all_goals exact hq _ (by simp)
      | lst es => 
        cases a <;> simp [nice] at ha he <;> simp [m__law_same, shp_int, deq_int] 
        case lst as =>
          by_cases ln : as.length = es.length
          · rw [if_pos (by omega)]
            simp [dFor, rngD_eq]
            rw [List.range_eq_range']
            refine ⟨by unfold sizeLine at he; omega, same_loop (.inr rfl) ln ha.2 he.2 (by simpa [dep] using hd) (fun z s2 => hq false (by simpa using z)) (fun z s2 => hq true (by simpa using z)) es.length 0 (by omega) (fun j hj => absurd hj (Nat.not_lt_zero _)) _ (.inl rfl)⟩
          · have : as ≠ es := fun z => ln (by rw [z])
            rw [if_neg (by omega)]
            exact hq false (by simpa using this)
        all_goals exact hq _ (by simp)
      | _ => simp [nice] at he
    · exact h.elim
abbrev pm_margin_of : List PMd := [.l, .l]
abbrev pm_least_units : List PMd := [.l, .l, .l]
abbrev pm_profit : List PMd := [.l, .l, .l, .l]
abbrev pm_units_for : List PMd := [.l, .l, .l, .l]
abbrev pm_safe_part : List PMd := [.l, .l, .l, .l]
abbrev pm__law_bad : List PMd := [.l, .l]
/-- what is chosen by whether all are numbers -/
def okx (c : Xf) (n : Nat) (Q : DOut → Prop) : Option D → Prop
  | some d => Q (.ret d .frz (List.replicate n none))
  | none => Q (.exc (exD c "InvalidNumber") (List.replicate n none))
def sp_margin_of (c : Xf) : DSp := fun ds Q => match ds with
  | [p, m] => plainD p ∧ plainD m ∧ okx c 2 Q (do let i ← chk p; let j ← chk m; pure (.int (i - j)))
  | _ => False
def leastU (f p m : Int) : D := if f = 0 then .int 0 else if p - m ≤ 0 then .non else .int ((f + (p - m) - 1) / (p - m))
def unitsF (f p m g : Int) : D := if f + g = 0 then .int 0 else if p - m ≤ 0 then .non else .int ((f + g + (p - m) - 1) / (p - m))
def safeP (f p m u : Int) : D := match leastU f p m with
  | .int l => if u = 0 ∨ (p - m) * u - f < 0 then .tup [.int 0, .int 1] else fr (Rat.divInt (u - l) u)
  | _ => .tup [.int 0, .int 1]
def sp_least_units (c : Xf) : DSp := fun ds Q => match ds with
  | [f, p, m] => plainD f ∧ plainD p ∧ plainD m ∧ okx c 3 Q (do let f ← chk f; let p ← chk p; let m ← chk m; pure (leastU f p m))
  | _ => False
def sp_profit (c : Xf) : DSp := fun ds Q => match ds with
  | [f, p, m, u] => plainD f ∧ plainD p ∧ plainD m ∧ plainD u ∧ okx c 4 Q (do let f ← chk f; let p ← chk p; let m ← chk m; let u ← chk u; pure (.int ((p - m) * u - f)))
  | _ => False
def sp_units_for (c : Xf) : DSp := fun ds Q => match ds with
  | [f, p, m, g] => plainD f ∧ plainD p ∧ plainD m ∧ plainD g ∧ okx c 4 Q (do let f ← chk f; let p ← chk p; let m ← chk m; let g ← chk g; pure (unitsF f p m g))
  | _ => False
def sp_safe_part (c : Xf) : DSp := fun ds Q => match ds with
  | [f, p, m, u] => plainD f ∧ plainD p ∧ plainD m ∧ plainD u ∧ okx c 4 Q (do let f ← chk f; let p ← chk p; let m ← chk m; let u ← chk u; pure (safeP f p m u))
  | _ => False
/-- is it refused? -/
def badN (k : Str) (a b x y : D) : Bool := if k = "margin" then !((chk a).isSome && (chk b).isSome) else if k = "least" then !((chk a).isSome && ((chk b).isSome && (chk x).isSome)) else !((chk a).isSome && ((chk b).isSome && ((chk x).isSome && (chk y).isSome)))
def sp__law_bad (c : Xf) : DSp := fun ds Q => match ds with
  | [.str k, .lst [a, b, x, y]] => PyData.strOk k = true ∧ plainD a ∧ plainD b ∧ plainD x ∧ plainD y ∧ Q (.ret (.bl (badN k a b x y)) .frz [none, none])
  | _ => False
def m_margin_of (c : Xf) : DS :=
 (dRet (dBin true (dCallP pm_checked_number [.int 0, .int 1000000] (sp_checked_number c) (uLn 0 uNil)) (dCallP pm_checked_number [.int 0, .int 1000000] (sp_checked_number c) (uLn 1 uNil)) δSub))
def m_least_units (c : Xf) : DS :=
 (dSeq (dDrop (dCallP pm_checked_number [.int 0, .int 1000000] (sp_checked_number c) (uLn 0 uNil)))
 (dSeq (dAsg (dCallP pm_margin_of [] (sp_margin_of c) (uLn 1 (uLn 2 uNil))) (dgName 3))
 (dSeq (dIfS (dB (dBin true (dSlot 0) (dC (.int 0)) (δEq false))) (dRet (dC (.int 0))) dNext)
 (dRet (dIf (dB (dBin true (dSlot 3) (dC (.int 0)) δLe)) (dC .non) (dBin true (dBin true (dBin true (dSlot 0) (dSlot 3) δAdd) (dC (.int 1)) δSub) (dSlot 3) δFdiv))))))
def m_profit (c : Xf) : DS :=
 (dSeq (dDrop (dCallP pm_checked_number [.int 0, .int 1000000] (sp_checked_number c) (uLn 0 uNil)))
 (dRet (dBin true (dBin true (dCallP pm_margin_of [] (sp_margin_of c) (uLn 1 (uLn 2 uNil))) (dCallP pm_checked_number [.int 0, .int 1000000] (sp_checked_number c) (uLn 3 uNil)) δMul) (dSlot 0) δSub)))
def m_units_for (c : Xf) : DS :=
 (dSeq (dDrop (dCallP pm_checked_number [.int 0, .int 1000000] (sp_checked_number c) (uLn 0 uNil)))
 (dSeq (dDrop (dCallP pm_checked_number [.int 0, .int 1000000] (sp_checked_number c) (uLn 3 uNil)))
 (dSeq (dAsg (dCallP pm_margin_of [] (sp_margin_of c) (uLn 1 (uLn 2 uNil))) (dgName 4))
 (dSeq (dIfS (dB (dBin true (dBin true (dSlot 0) (dSlot 3) δAdd) (dC (.int 0)) (δEq false))) (dRet (dC (.int 0))) dNext)
 (dRet (dIf (dB (dBin true (dSlot 4) (dC (.int 0)) δLe)) (dC .non) (dBin true (dBin true (dBin true (dBin true (dSlot 0) (dSlot 3) δAdd) (dSlot 4) δAdd) (dC (.int 1)) δSub) (dSlot 4) δFdiv)))))))
def m_safe_part (c : Xf) : DS :=
 (dSeq (dAsg (dCallP pm_least_units [] (sp_least_units c) (uLn 0 (uLn 1 (uLn 2 uNil)))) (dgName 4))
 (dSeq (dDrop (dCallP pm_checked_number [.int 0, .int 1000000] (sp_checked_number c) (uLn 3 uNil)))
 (dSeq (dIfS (dOrT (dB (dBin true (dSlot 3) (dC (.int 0)) (δEq false))) (dOrT (dB (dBin true (dSlot 4) (dC .non) (δIs false))) (dB (dBin true (dCallP pm_profit [] (sp_profit c) (uLn 0 (uLn 1 (uLn 2 (uLn 3 uNil))))) (dC (.int 0)) δLt)))) (dRet (dC (.tup [.int 0, .int 1]))) dNext)
 (dRet (dCallP pm_frac [] (sp_frac c) (uVal true (dBin true (dSlot 3) (dSlot 4) δSub) (uLn 3 uNil)))))))
def m__law_bad (c : Xf) : DS :=
 (dSeq (dTry (c.tr "InvalidNumber") (dIfS (dB (dBin true (dSlot 0) (dC (.str "margin")) (δEq false))) (dDrop (dCallP pm_margin_of [] (sp_margin_of c) (uVal true (dBin true (dSlot 1) (dC (.int 0)) δIx) (uVal true (dBin true (dSlot 1) (dC (.int 1)) δIx) uNil)))) (dIfS (dB (dBin true (dSlot 0) (dC (.str "least")) (δEq false))) (dDrop (dCallP pm_least_units [] (sp_least_units c) (uVal true (dBin true (dSlot 1) (dC (.int 0)) δIx) (uVal true (dBin true (dSlot 1) (dC (.int 1)) δIx) (uVal true (dBin true (dSlot 1) (dC (.int 2)) δIx) uNil))))) (dIfS (dB (dBin true (dSlot 0) (dC (.str "profit")) (δEq false))) (dDrop (dCallP pm_profit [] (sp_profit c) (uVal true (dBin true (dSlot 1) (dC (.int 0)) δIx) (uVal true (dBin true (dSlot 1) (dC (.int 1)) δIx) (uVal true (dBin true (dSlot 1) (dC (.int 2)) δIx) (uVal true (dBin true (dSlot 1) (dC (.int 3)) δIx) uNil)))))) (dIfS (dB (dBin true (dSlot 0) (dC (.str "goal")) (δEq false))) (dDrop (dCallP pm_units_for [] (sp_units_for c) (uVal true (dBin true (dSlot 1) (dC (.int 0)) δIx) (uVal true (dBin true (dSlot 1) (dC (.int 1)) δIx) (uVal true (dBin true (dSlot 1) (dC (.int 2)) δIx) (uVal true (dBin true (dSlot 1) (dC (.int 3)) δIx) uNil)))))) (dDrop (dCallP pm_safe_part [] (sp_safe_part c) (uVal true (dBin true (dSlot 1) (dC (.int 0)) δIx) (uVal true (dBin true (dSlot 1) (dC (.int 1)) δIx) (uVal true (dBin true (dSlot 1) (dC (.int 2)) δIx) (uVal true (dBin true (dSlot 1) (dC (.int 3)) δIx) uNil)))))))))) (dRet (dC (.bl true))))
 (dRet (dC (.bl false))))
theorem chk_get {d : D} {i : Int} (h : chk d = some i) : d = .int i ∧ 0 ≤ i ∧ i ≤ 1000000 := by
  unfold chk at h
  split at h
  · split at h <;> simp at h
    subst h; exact ⟨rfl, by assumption⟩
  · cases h
theorem chk_int {i : Int} (h : 0 ≤ i ∧ i ≤ 1000000) : chk (.int i) = some i := by simp [chk, h]
theorem chkY {d : D} {i : Int} (h : chk d = some i) {c : Xf} {Q : DOut → Prop} : sp_checked_number c [d, .int 0, .int 1000000] Q = Q (.ret (.int i) .frz [none, none, none]) := by
  have s0 : strOk 0 := by unfold strOk; decide +kernel
  have s1 : strOk 1000000 := by unfold strOk; decide +kernel
  obtain ⟨rfl, h0, h1⟩ := chk_get h
  simp [sp_checked_number, plainD, s0, s1, isNum, h0, h1]
theorem chkN {d : D} (hp : plainD d) (h : chk d = none) {c : Xf} {Q : DOut → Prop} : sp_checked_number c [d, .int 0, .int 1000000] Q = Q (.exc (exD c "InvalidNumber") [none, none, none]) := by
  have s0 : strOk 0 := by unfold strOk; decide +kernel
  have s1 : strOk 1000000 := by unfold strOk; decide +kernel
  have : isNum d 0 1000000 = false := by
    cases d <;> simp [isNum, chk] at h ⊢
    exact h
  simp [sp_checked_number, hp, s0, s1, this]
theorem margY {p m : D} {i j : Int} (h1 : chk p = some i) (h2 : chk m = some j) {c : Xf} {Q : DOut → Prop} : sp_margin_of c [p, m] Q = Q (.ret (.int (i - j)) .frz [none, none]) := by
  simp only [sp_margin_of, h1, h2]
  rw [(chk_get h1).1, (chk_get h2).1]
  simp [plainD, okx]
theorem margN {p m : D} (h1 : plainD p) (h2 : plainD m) (h : chk p = none ∨ chk m = none) {c : Xf} {Q : DOut → Prop} : sp_margin_of c [p, m] Q = Q (.exc (exD c "InvalidNumber") [none, none]) := by
  simp only [sp_margin_of, h1, h2, true_and]
  rcases h with h | h
  · simp [h, okx]
  · cases e : chk p <;> simp [h, okx]
theorem d_margin_of (c : Xf) (ds : List D) (vs : List V) (Q : DOut → Prop) (h1 : ds.length = 2) (h2 : vs.length = 2) (h : sp_margin_of c ds Q) : m_margin_of c (defEnv pm_margin_of ds vs 0) (defEnds pm_margin_of vs Q) := by
  match vs, h2 with
  | [v0, v1], _ =>
    unfold sp_margin_of at h
    split at h
    · rename_i p m
      obtain ⟨hp, hm, hq⟩ := h
      show m_margin_of c [some (p, .lent), some (m, .lent)] _
      cases ep : chk p with
      | none =>
        simp [ep, okx] at hq
        simp [m_margin_of, ↓chkN hp ep]
        exact hq
      | some pi =>
        cases em : chk m with
        | none =>
          simp [ep, em, okx] at hq
          simp [m_margin_of, ↓chkY ep, ↓chkN hm em]
          exact hq
        | some mi =>
          simp [ep, em, okx] at hq
          simp [m_margin_of, ↓chkY ep, ↓chkY em]
          exact hq
    · exact h.elim
theorem d_least_units (c : Xf) (ds : List D) (vs : List V) (Q : DOut → Prop) (h1 : ds.length = 3) (h2 : vs.length = 3) (h : sp_least_units c ds Q) : m_least_units c (defEnv pm_least_units ds vs 1) (defEnds pm_least_units vs Q) := by
  match vs, h2 with
  | [v0, v1, v2], _ =>
    unfold sp_least_units at h
    split at h
    · rename_i f p m
      obtain ⟨hf, hp, hm, hq⟩ := h
      show m_least_units c [some (f, .lent), some (p, .lent), some (m, .lent), none] _
      cases ef : chk f with
      | none =>
        simp [ef, okx] at hq
        simp [m_least_units, ↓chkN hf ef]
        exact hq
      | some fi =>
        obtain ⟨rfl, f0, f1⟩ := chk_get ef
        by_cases hn : chk p = none ∨ chk m = none
        · have hq : Q (.exc (exD c "InvalidNumber") [none, none, none]) := by
            cases ep : chk p <;> cases em : chk m <;> simp [ep, em] at hn <;> simpa [ef, ep, em, okx] using hq
          simp [m_least_units, ↓chkY ef, ↓margN hp hm hn]
          exact hq
        · cases ep : chk p with
          | none => exact absurd (.inl ep) hn
          | some pi =>
            cases em : chk m with
            | none => exact absurd (.inr em) hn
            | some mi =>
              simp [ef, ep, em, okx] at hq
              by_cases e0 : fi = 0
              · subst e0
                simp [m_least_units, ↓chkY ef, ↓margY ep em, shp_int, deq_int]
                simpa [leastU] using hq
              · by_cases e1 : pi - mi ≤ 0
                · simp [m_least_units, ↓chkY ef, ↓margY ep em, shp_int, deq_int, e0, e1]
                  simpa [leastU, e0, e1] using hq
                · have cd : ∀ z : Int, CDivW z (pi - mi) := fun z => divS (by omega) (by have := (chk_get ep).2; have := (chk_get em).2; omega)
                  simp [m_least_units, ↓chkY ef, ↓margY ep em, shp_int, deq_int, e0, e1, cd]
                  simpa [leastU, e0, e1, cd] using hq
    · exact h.elim
theorem d_profit (c : Xf) (ds : List D) (vs : List V) (Q : DOut → Prop) (h1 : ds.length = 4) (h2 : vs.length = 4) (h : sp_profit c ds Q) : m_profit c (defEnv pm_profit ds vs 0) (defEnds pm_profit vs Q) := by
  match vs, h2 with
  | [v0, v1, v2, v3], _ =>
    unfold sp_profit at h
    split at h
    · rename_i f p m u
      obtain ⟨hf, hp, hm, hu, hq⟩ := h
      show m_profit c [some (f, .lent), some (p, .lent), some (m, .lent), some (u, .lent)] _
      cases ef : chk f with
      | none =>
        simp [ef, okx] at hq
        simp [m_profit, ↓chkN hf ef]
        exact hq
      | some fi =>
        obtain ⟨rfl, f0, f1⟩ := chk_get ef
        by_cases hn : chk p = none ∨ chk m = none
        · have hq : Q (.exc (exD c "InvalidNumber") [none, none, none, none]) := by
            cases ep : chk p <;> cases em : chk m <;> simp [ep, em] at hn <;> simpa [ef, ep, em, okx] using hq
          simp [m_profit, ↓chkY ef, ↓margN hp hm hn]
          exact hq
        · cases ep : chk p with
          | none => exact absurd (.inl ep) hn
          | some pi =>
            cases em : chk m with
            | none => exact absurd (.inr em) hn
            | some mi =>
              cases eu : chk u with
              | none =>
                simp [ef, ep, em, eu, okx] at hq
                simp [m_profit, ↓chkY ef, ↓margY ep em, ↓chkN hu eu]
                exact hq
              | some ui =>
                simp [ef, ep, em, eu, okx] at hq
                have cd : CMulW (pi - mi) ui := mulS (by have := (chk_get ep).2; have := (chk_get em).2; omega) (by have := (chk_get eu).2; omega)
                simp [m_profit, ↓chkY ef, ↓margY ep em, ↓chkY eu, cd]
                exact hq
    · exact h.elim
theorem d_units_for (c : Xf) (ds : List D) (vs : List V) (Q : DOut → Prop) (h1 : ds.length = 4) (h2 : vs.length = 4) (h : sp_units_for c ds Q) : m_units_for c (defEnv pm_units_for ds vs 1) (defEnds pm_units_for vs Q) := by
  match vs, h2 with
  | [v0, v1, v2, v3], _ =>
    unfold sp_units_for at h
    split at h
    · rename_i f p m u
      obtain ⟨hf, hp, hm, hu, hq⟩ := h
      show m_units_for c [some (f, .lent), some (p, .lent), some (m, .lent), some (u, .lent), none] _
      cases ef : chk f with
      | none =>
        simp [ef, okx] at hq
        simp [m_units_for, ↓chkN hf ef]
        exact hq
      | some fi =>
        obtain ⟨rfl, f0, f1⟩ := chk_get ef
        cases eu : chk u with
        | none =>
          have hq : Q (.exc (exD c "InvalidNumber") [none, none, none, none]) := by
            cases ep : chk p <;> cases em : chk m <;> simpa [ef, ep, em, eu, okx] using hq
          simp [m_units_for, ↓chkY ef, ↓chkN hu eu]
          exact hq
        | some ui =>
          obtain ⟨rfl, u0, u1⟩ := chk_get eu
          by_cases hn : chk p = none ∨ chk m = none
          · have hq : Q (.exc (exD c "InvalidNumber") [none, none, none, none]) := by
              cases ep : chk p <;> cases em : chk m <;> simp [ep, em] at hn <;> simpa [ef, ep, em, okx] using hq
            simp [m_units_for, ↓chkY ef, ↓chkY eu, ↓margN hp hm hn]
            exact hq
          · cases ep : chk p with
            | none => exact absurd (.inl ep) hn
            | some pi =>
              cases em : chk m with
              | none => exact absurd (.inr em) hn
              | some mi =>
                simp [ef, ep, em, eu, okx] at hq
                by_cases e0 : fi + ui = 0
                · simp [m_units_for, ↓chkY ef, ↓chkY eu, ↓margY ep em, shp_int, deq_int, e0]
                  simpa [unitsF, e0] using hq
                · by_cases e1 : pi - mi ≤ 0
                  · simp [m_units_for, ↓chkY ef, ↓chkY eu, ↓margY ep em, shp_int, deq_int, e0, e1]
                    simpa [unitsF, e0, e1] using hq
                  · have cd : ∀ z : Int, CDivW z (pi - mi) := fun z => divS (by omega) (by have := (chk_get ep).2; have := (chk_get em).2; omega)
                    simp [m_units_for, ↓chkY ef, ↓chkY eu, ↓margY ep em, shp_int, deq_int, e0, e1, cd]
                    simpa [unitsF, e0, e1, cd] using hq
    · exact h.elim
theorem B8_small {i : Int} (h : i.natAbs < 2 ^ 64) : B8 i := Nat.lt_of_lt_of_le h (Nat.pow_le_pow_right (by decide) (by decide))
theorem leastU_cases {f p m : Int} (h0 : 0 ≤ f) (h1 : f ≤ 1000000) (hp : p ≤ 1000000) (hm : 0 ≤ m) : leastU f p m = .non ∨ ∃ l, leastU f p m = .int l ∧ 0 ≤ l ∧ l ≤ 3000000 := by
  unfold leastU
  split
  · exact .inr ⟨0, rfl, by omega, by omega⟩
  · split
    · exact .inl rfl
    · refine .inr ⟨_, rfl, Int.ediv_nonneg (by omega) (by omega), ?_⟩
      have := Int.ediv_le_self (a := f + (p - m) - 1) (p - m) (by omega)
      omega
theorem leastY {f p m : D} {fi pi mi : Int} (h1 : chk f = some fi) (h2 : chk p = some pi) (h3 : chk m = some mi) {c : Xf} {Q : DOut → Prop} : sp_least_units c [f, p, m] Q = Q (.ret (leastU fi pi mi) .frz [none, none, none]) := by
  simp only [sp_least_units, h1, h2, h3]
  rw [(chk_get h1).1, (chk_get h2).1, (chk_get h3).1]
  simp [plainD, okx]
theorem leastN {f p m : D} (k1 : plainD f) (k2 : plainD p) (k3 : plainD m) (h : ((chk f).isSome && ((chk p).isSome && (chk m).isSome)) = false) {c : Xf} {Q : DOut → Prop} : sp_least_units c [f, p, m] Q = Q (.exc (exD c "InvalidNumber") [none, none, none]) := by
  simp only [sp_least_units, k1, k2, k3, true_and]
  cases e1 : chk f <;> cases e2 : chk p <;> cases e3 : chk m <;> simp [e1, e2, e3] at h <;> simp [okx]
theorem profitY {f p m u : D} {fi pi mi ui : Int} (h1 : chk f = some fi) (h2 : chk p = some pi) (h3 : chk m = some mi) (h4 : chk u = some ui) {c : Xf} {Q : DOut → Prop} : sp_profit c [f, p, m, u] Q = Q (.ret (.int ((pi - mi) * ui - fi)) .frz [none, none, none, none]) := by
  simp only [sp_profit, h1, h2, h3, h4]
  rw [(chk_get h1).1, (chk_get h2).1, (chk_get h3).1, (chk_get h4).1]
  simp [plainD, okx]
theorem d_safe_part (c : Xf) (ds : List D) (vs : List V) (Q : DOut → Prop) (h1 : ds.length = 4) (h2 : vs.length = 4) (h : sp_safe_part c ds Q) : m_safe_part c (defEnv pm_safe_part ds vs 1) (defEnds pm_safe_part vs Q) := by
  match vs, h2 with
  | [v0, v1, v2, v3], _ =>
    unfold sp_safe_part at h
    split at h
    · rename_i f p m u
      obtain ⟨hf, hp, hm, hu, hq⟩ := h
      show m_safe_part c [some (f, .lent), some (p, .lent), some (m, .lent), some (u, .lent), none] _
      cases hb : ((chk f).isSome && ((chk p).isSome && (chk m).isSome)) with
      | false =>
        have hq : Q (.exc (exD c "InvalidNumber") [none, none, none, none]) := by
          cases ef : chk f <;> cases ep : chk p <;> cases em : chk m <;> simp [ef, ep, em] at hb <;> simpa [ef, ep, em, okx] using hq
        simp [m_safe_part, ↓leastN hf hp hm hb]
        exact hq
      | true =>
        cases ef : chk f with
        | none => simp [ef] at hb
        | some fi =>
        cases ep : chk p with
        | none => simp [ep] at hb
        | some pi =>
        cases em : chk m with
        | none => simp [em] at hb
        | some mi =>
        have lc := leastU_cases (chk_get ef).2.1 (chk_get ef).2.2 (chk_get ep).2.2 (chk_get em).2.1
        cases eu : chk u with
        | none =>
          simp [ef, ep, em, eu, okx] at hq
          rcases lc with hl | ⟨l, hl, l0, l1⟩ <;>
          · simp [m_safe_part, ↓leastY ef ep em, hl, ↓chkN hu eu]
            exact hq
        | some ui =>
          obtain ⟨rfl, u0, u1⟩ := chk_get eu
          simp [ef, ep, em, eu, okx] at hq
          by_cases z0 : ui = 0
          · subst z0
            have hq : Q (.ret (.tup [.int 0, .int 1]) .frz [none, none, none, none]) := by
              unfold safeP at hq
              split at hq <;> simpa using hq
            rcases lc with hl | ⟨l, hl, l0, l1⟩ <;>
            · simp [m_safe_part, ↓leastY ef ep em, hl, ↓chkY eu, shp_int, deq_int]
              exact hq
          · rcases lc with hl | ⟨l, hl, l0, l1⟩
            · simp [safeP, hl] at hq
              simp [m_safe_part, ↓leastY ef ep em, hl, ↓chkY eu, shp_int, deq_int, z0]
              exact hq
            · simp only [safeP, hl] at hq
              by_cases hpr : (pi - mi) * ui - fi < 0
              · simp [hpr] at hq
                simp [m_safe_part, ↓leastY ef ep em, hl, ↓chkY eu, shp_int, deq_int, z0, ↓profitY ef ep em eu, hpr]
                exact hq
              · simp [hpr, z0] at hq
                simp [m_safe_part, ↓leastY ef ep em, hl, ↓chkY eu, shp_int, deq_int, z0, ↓profitY ef ep em eu, hpr, sp_frac, B8_small (i := ui - l) (by omega), B8_small (i := ui) (by omega), u0]
                exact hq
    · exact h.elim
theorem profitN {f p m u : D} (k1 : plainD f) (k2 : plainD p) (k3 : plainD m) (k4 : plainD u) (h : ((chk f).isSome && ((chk p).isSome && ((chk m).isSome && (chk u).isSome))) = false) {c : Xf} {Q : DOut → Prop} : sp_profit c [f, p, m, u] Q = Q (.exc (exD c "InvalidNumber") [none, none, none, none]) := by
  simp only [sp_profit, k1, k2, k3, k4, true_and]
  cases e1 : chk f <;> cases e2 : chk p <;> cases e3 : chk m <;> cases e4 : chk u <;> simp [e1, e2, e3, e4] at h <;> simp [okx]
theorem unitsN {f p m u : D} (k1 : plainD f) (k2 : plainD p) (k3 : plainD m) (k4 : plainD u) (h : ((chk f).isSome && ((chk p).isSome && ((chk m).isSome && (chk u).isSome))) = false) {c : Xf} {Q : DOut → Prop} : sp_units_for c [f, p, m, u] Q = Q (.exc (exD c "InvalidNumber") [none, none, none, none]) := by
  simp only [sp_units_for, k1, k2, k3, k4, true_and]
  cases e1 : chk f <;> cases e2 : chk p <;> cases e3 : chk m <;> cases e4 : chk u <;> simp [e1, e2, e3, e4] at h <;> simp [okx]
theorem safeN {f p m u : D} (k1 : plainD f) (k2 : plainD p) (k3 : plainD m) (k4 : plainD u) (h : ((chk f).isSome && ((chk p).isSome && ((chk m).isSome && (chk u).isSome))) = false) {c : Xf} {Q : DOut → Prop} : sp_safe_part c [f, p, m, u] Q = Q (.exc (exD c "InvalidNumber") [none, none, none, none]) := by
  simp only [sp_safe_part, k1, k2, k3, k4, true_and]
  cases e1 : chk f <;> cases e2 : chk p <;> cases e3 : chk m <;> cases e4 : chk u <;> simp [e1, e2, e3, e4] at h <;> simp [okx]
theorem unitsY {f p m u : D} {fi pi mi ui : Int} (h1 : chk f = some fi) (h2 : chk p = some pi) (h3 : chk m = some mi) (h4 : chk u = some ui) {c : Xf} {Q : DOut → Prop} : sp_units_for c [f, p, m, u] Q = Q (.ret (unitsF fi pi mi ui) .frz [none, none, none, none]) := by
  simp only [sp_units_for, h1, h2, h3, h4]
  rw [(chk_get h1).1, (chk_get h2).1, (chk_get h3).1, (chk_get h4).1]
  simp [plainD, okx]
theorem safeY {f p m u : D} {fi pi mi ui : Int} (h1 : chk f = some fi) (h2 : chk p = some pi) (h3 : chk m = some mi) (h4 : chk u = some ui) {c : Xf} {Q : DOut → Prop} : sp_safe_part c [f, p, m, u] Q = Q (.ret (safeP fi pi mi ui) .frz [none, none, none, none]) := by
  simp only [sp_safe_part, h1, h2, h3, h4]
  rw [(chk_get h1).1, (chk_get h2).1, (chk_get h3).1, (chk_get h4).1]
  simp [plainD, okx]
theorem isS {α : Type} {o : Option α} (h : o.isSome = true) : ∃ x, o = some x := Option.isSome_iff_exists.mp h
def Tr1 (c : Xf) : Prop := c.tr "InvalidNumber" (.ref (c.a "InvalidNumber")) = some true
theorem d__law_bad (c : Xf) (tr : Tr1 c) (ds : List D) (vs : List V) (Q : DOut → Prop) (h1 : ds.length = 2) (h2 : vs.length = 2) (h : sp__law_bad c ds Q) : m__law_bad c (defEnv pm__law_bad ds vs 0) (defEnds pm__law_bad vs Q) := by
  match vs, h2 with
  | [v0, v1], _ =>
    unfold sp__law_bad at h
    split at h
    · rename_i k a b x y
      obtain ⟨hs, ha, hb, hx, hy, hq⟩ := h
      show m__law_bad c [some (.str k, .lent), some (.lst [a, b, x, y], .lent)] _
      have tr' : c.tr (Str.ofString "InvalidNumber") (.ref (c.a (Str.ofString "InvalidNumber"))) = some true := tr
      have sl : ∀ z : Str, PyData.strOk z = true → shp (.str z) := fun z => shp_str
      have s1 : PyData.strOk (Str.ofString "margin") = true := by decide +kernel
      have s2 : PyData.strOk (Str.ofString "least") = true := by decide +kernel
      have s3 : PyData.strOk (Str.ofString "profit") = true := by decide +kernel
      have s4 : PyData.strOk (Str.ofString "goal") = true := by decide +kernel
      by_cases k1 : k = Str.ofString "margin"
      · subst k1
        cases e : ((chk a).isSome && (chk b).isSome) with
        | false =>
          have e' : chk a = none ∨ chk b = none := by
            cases e1 : chk a with
            | none => exact .inl rfl
            | some _ => cases e2 : chk b with
              | none => exact .inr rfl
              | some _ => simp [e1, e2] at e
          simp only [badN, e] at hq
          simp [m__law_bad, shp_str, deq_str, s1, at4_0, at4_1, ↓margN ha hb e', exD, tr']
          exact hq
        | true =>
          obtain ⟨e1, e2⟩ := Bool.and_eq_true_iff.mp e
          obtain ⟨ai, e1⟩ := isS e1
          obtain ⟨bi, e2⟩ := isS e2
          simp only [badN, e] at hq
          simp [m__law_bad, shp_str, deq_str, s1, at4_0, at4_1, ↓margY e1 e2]
          exact hq
      by_cases k2 : k = Str.ofString "least"
      · subst k2
        have hq : Q (.ret (.bl (!((chk a).isSome && ((chk b).isSome && (chk x).isSome)))) .frz [none, none]) := by
          have : badN (Str.ofString "least") a b x y = !((chk a).isSome && ((chk b).isSome && (chk x).isSome)) := by
            unfold badN; rw [if_neg (by decide +kernel), if_pos rfl]
          rw [← this]; exact hq
        cases e : ((chk a).isSome && ((chk b).isSome && (chk x).isSome)) with
        | false =>
          rw [e] at hq
          simp [m__law_bad, shp_str, deq_str, s1, s2, k1, at4_0, at4_1, at4_2, ↓leastN ha hb hx e, exD, tr']
          exact hq
        | true =>
          rw [e] at hq
          obtain ⟨e1, e⟩ := Bool.and_eq_true_iff.mp e
          obtain ⟨e2, e3⟩ := Bool.and_eq_true_iff.mp e
          obtain ⟨ai, e1⟩ := isS e1
          obtain ⟨bi, e2⟩ := isS e2
          obtain ⟨xi, e3⟩ := isS e3
          simp [m__law_bad, shp_str, deq_str, s1, s2, k1, at4_0, at4_1, at4_2, ↓leastY e1 e2 e3]
          exact hq
      have hq : Q (.ret (.bl (!((chk a).isSome && ((chk b).isSome && ((chk x).isSome && (chk y).isSome))))) .frz [none, none]) := by
        have : badN k a b x y = !((chk a).isSome && ((chk b).isSome && ((chk x).isSome && (chk y).isSome))) := by
          unfold badN; rw [if_neg k1, if_neg k2]
        rw [← this]; exact hq
      cases e : ((chk a).isSome && ((chk b).isSome && ((chk x).isSome && (chk y).isSome))) with
      | false =>
        rw [e] at hq
        by_cases k3 : k = Str.ofString "profit"
        · simp [m__law_bad, shp_str, deq_str, s1, s2, s3, hs, k1, k2, ← k3, at4_0, at4_1, at4_2, at4_3, ↓profitN ha hb hx hy e, exD, tr']
          exact hq
        by_cases k4 : k = Str.ofString "goal"
        · simp [m__law_bad, shp_str, deq_str, s1, s2, s3, s4, hs, k1, k2, k3, ← k4, at4_0, at4_1, at4_2, at4_3, ↓unitsN ha hb hx hy e, exD, tr']
          exact hq
        · simp [m__law_bad, shp_str, deq_str, s1, s2, s3, s4, hs, k1, k2, k3, k4, at4_0, at4_1, at4_2, at4_3, ↓safeN ha hb hx hy e, exD, tr']
          exact hq
      | true =>
        rw [e] at hq
        obtain ⟨e1, e⟩ := Bool.and_eq_true_iff.mp e
        obtain ⟨e2, e⟩ := Bool.and_eq_true_iff.mp e
        obtain ⟨e3, e4⟩ := Bool.and_eq_true_iff.mp e
        obtain ⟨ai, e1⟩ := isS e1
        obtain ⟨bi, e2⟩ := isS e2
        obtain ⟨xi, e3⟩ := isS e3
        obtain ⟨yi, e4⟩ := isS e4
        by_cases k3 : k = Str.ofString "profit"
        · simp [m__law_bad, shp_str, deq_str, s1, s2, s3, hs, k1, k2, ← k3, at4_0, at4_1, at4_2, at4_3, ↓profitY e1 e2 e3 e4]
          exact hq
        by_cases k4 : k = Str.ofString "goal"
        · simp [m__law_bad, shp_str, deq_str, s1, s2, s3, s4, hs, k1, k2, k3, ← k4, at4_0, at4_1, at4_2, at4_3, ↓unitsY e1 e2 e3 e4]
          exact hq
        · simp [m__law_bad, shp_str, deq_str, s1, s2, s3, s4, hs, k1, k2, k3, k4, at4_0, at4_1, at4_2, at4_3, ↓safeY e1 e2 e3 e4]
          exact hq
    · exact h.elim
abbrev pm_law : List PMd := [.l]
def m_law_e1 (c : Xf) : DE :=
 (dBin false (dLst (dCons false (dC (.int 0)) (dCons false (dCall pm__law_next [] sp__law_next (uSl 1 (uLn 3 uNil))) (dCons true (dCall pm__law_next [] sp__law_next (uSl 1 (uLn 3 uNil))) dNil)))) (dCall pm__law_next [] sp__law_next (uSl 1 (uVal true (dC (.int 3)) uNil))) δIx)
def m_law_s6 (c : Xf) : DS :=
 (dIfS (dNotT (dTruth (dCallP pm__law_same [] (sp__law_same 6) (uVal true (dCallP pm_safe_part [] (sp_safe_part c) (uLn 4 (uLn 5 (uLn 6 (uLn 7 uNil))))) (uLn 13 uNil))))) (dRet (dC (.bl false))) dNext)
def m_law_s5 (c : Xf) : DS :=
 (dSeq (dAsg (dTup (dCons true (dC (.int 0)) (dCons true (dC (.int 1)) dNil))) (dgName 13))
 (dSeq (dIfS (dAndT (dB (dBin true (dSlot 7) (dC (.int 0)) δGt)) (dAndT (dB (dBin true (dSlot 11) (dC .non) (δIs true))) (dB (dBin true (dBin true (dBin true (dSlot 10) (dSlot 7) δMul) (dSlot 4) δSub) (dC (.int 0)) δGe)))) (dAsg (dCallP pm__law_fr [] sp__law_fr (uVal true (dBin true (dSlot 7) (dSlot 11) δSub) (uLn 7 uNil))) (dgName 13)) dNext)
 (m_law_s6 c)))
def m_law_s4 (c : Xf) : DS :=
 (dSeq (dIfS (dB (dBin true (dSlot 12) (dC .non) (δIs true))) (dIfS (dOrT (dB (dBin true (dBin true (dBin true (dSlot 12) (dSlot 10) δMul) (dSlot 4) δSub) (dSlot 8) δLt)) (dAndT (dB (dBin true (dSlot 12) (dC (.int 0)) δGt)) (dB (dBin true (dBin true (dBin true (dBin true (dSlot 12) (dC (.int 1)) δSub) (dSlot 10) δMul) (dSlot 4) δSub) (dSlot 8) δGe)))) (dRet (dC (.bl false))) dNext) dNext)
 (m_law_s5 c))
def m_law_s3 (c : Xf) : DS :=
 (dSeq (dIfS (dB (dBin true (dSlot 11) (dC .non) (δIs true))) (dIfS (dOrT (dB (dBin true (dCallP pm_profit [] (sp_profit c) (uLn 4 (uLn 5 (uLn 6 (uLn 11 uNil))))) (dC (.int 0)) δLt)) (dAndT (dB (dBin true (dSlot 11) (dC (.int 0)) δGt)) (dB (dBin true (dCallP pm_profit [] (sp_profit c) (uLn 4 (uLn 5 (uLn 6 (uVal true (dBin true (dSlot 11) (dC (.int 1)) δSub) uNil))))) (dC (.int 0)) δGe)))) (dRet (dC (.bl false))) dNext) dNext)
 (m_law_s4 c))
def m_law_s2 (c : Xf) : DS :=
 (dSeq (dIfS (dOrT (dB (dBin true (dBin true (dSlot 11) (dC .non) (δIs false)) (dAnd (dBin true (dSlot 10) (dC (.int 0)) δLe) (dBin true (dSlot 4) (dC (.int 0)) δGt)) (δEq true))) (dB (dBin true (dBin true (dSlot 12) (dC .non) (δIs false)) (dAnd (dBin true (dSlot 10) (dC (.int 0)) δLe) (dBin true (dBin true (dSlot 4) (dSlot 8) δAdd) (dC (.int 0)) δGt)) (δEq true)))) (dRet (dC (.bl false))) dNext)
 (m_law_s3 c))
def m_law_s1 (c : Xf) : DS :=
 (dSeq (dPar 11 12 (dCons true (dCallP pm_least_units [] (sp_least_units c) (uLn 4 (uLn 5 (uLn 6 uNil)))) (dCons true (dCallP pm_units_for [] (sp_units_for c) (uLn 4 (uLn 5 (uLn 6 (uLn 8 uNil))))) dNil)))
 (m_law_s2 c))
def m_law_s0 (c : Xf) : DS :=
 (dSeq (dAsg (dBin true (dSlot 5) (dSlot 6) δSub) (dgName 10))
 (dSeq (dIfS (dOrT (dB (dBin true (dCallP pm_margin_of [] (sp_margin_of c) (uLn 5 (uLn 6 uNil))) (dSlot 10) (δEq true))) (dB (dBin true (dCallP pm_profit [] (sp_profit c) (uLn 4 (uLn 5 (uLn 6 (uLn 7 uNil))))) (dBin true (dBin true (dSlot 10) (dSlot 7) δMul) (dSlot 4) δSub) (δEq true)))) (dRet (dC (.bl false))) dNext)
 (m_law_s1 c)))
def m_law_b2 (c : Xf) : DS :=
 (dSeq (dAsg (dBin false (dLst (dCons true (dC (.int 5)) (dCons true (dC (.int 2000)) dNil))) (dCall pm__law_next [] sp__law_next (uSl 1 (uVal true (dC (.int 2)) uNil))) δIx) (dgName 3))
 (dSeq (dAsg (dLc [9] (diR1 (dCons true (dC (.int 5)) dNil)) (dgName 9) dYes (m_law_e1 c)) (dgLst 5 (dgCons (dgName 4) (dgCons (dgName 5) (dgCons (dgName 6) (dgCons (dgName 7) (dgCons (dgName 8) dgNil)))))))
 (m_law_s0 c)))
def m_law_b3 (c : Xf) : DS :=
 (dSeq (dAsg (dLst (dCons true (dC (.int 5)) (dCons true (dC (.int 9)) (dCons true (dC (.int 3)) (dCons true (dC (.int 7)) dNil))))) (dgName 15))
 (dSeq (dAsg (dSlotF 14) (dgSub 15 true (dSlot 9)))
 (dSeq (dIfS (dOrT (dB (dBin true (dCallP pm__law_bad [] (sp__law_bad c) (uVal true (dC (.str "profit")) (uLn 15 uNil))) (dC (.bl true)) (δIsB true))) (dOrT (dB (dBin true (dCallP pm__law_bad [] (sp__law_bad c) (uVal true (dC (.str "goal")) (uLn 15 uNil))) (dC (.bl true)) (δIsB true))) (dB (dBin true (dCallP pm__law_bad [] (sp__law_bad c) (uVal true (dC (.str "safe")) (uLn 15 uNil))) (dC (.bl true)) (δIsB true))))) (dRet (dC (.bl false))) dNext)
 (dIfS (dOrT (dAndT (dB (dBin true (dSlot 9) (dC (.int 3)) δLt)) (dB (dBin true (dCallP pm__law_bad [] (sp__law_bad c) (uVal true (dC (.str "least")) (uLn 15 uNil))) (dC (.bl true)) (δIsB true)))) (dAndT (dB (dBin true (dSlot 9) (dC (.int 2)) δLt)) (dB (dBin true (dCallP pm__law_bad [] (sp__law_bad c) (uVal true (dC (.str "margin")) (uLn 15 uNil))) (dC (.bl true)) (δIsB true))))) (dRet (dC (.bl false))) dNext))))
def m_law_b4 (c : Xf) : DS :=
 (dFor (diR1 (dCons true (dC (.int 4)) dNil)) (dgName 9) (m_law_b3 c))
def m_law (c : Xf) : DS :=
 (dSeq (dAsg (dLst (dCons true (dBi (dCons true (dSlot 0) dNil) δList) (dCons true (dC (.int 0)) (dCons true (dC (.int 0)) (dCons true (dC (.int 1)) dNil))))) (dgName 1))
 (dSeq (dFor (diR1 (dCons true (dC (.int 6)) dNil)) (dgName 2) (m_law_b2 c))
 (dSeq (dFor (diL (dLst (dCons true (δU negOf (dC (.int 1))) (dCons true (dC (.int 1000001)) (dCons true (dC (.bl true)) (dCons true (dC .non) dNil)))))) (dgName 14) (m_law_b4 c))
 (dRet (dAnd (dBin true (dCallP pm_least_units [] (sp_least_units c) (uVal true (dC (.int 0)) (uVal true (dC (.int 0)) (uVal true (dC (.int 1000000)) uNil)))) (dC (.int 0)) (δEq false)) (dAnd (dBin true (dCallP pm_least_units [] (sp_least_units c) (uVal true (dC (.int 1000000)) (uVal true (dC (.int 1000000)) (uVal true (dC (.int 999999)) uNil)))) (dC (.int 1000000)) (δEq false)) (dBin true (dCallP pm__law_bad [] (sp__law_bad c) (uVal true (dC (.str "profit")) (uVal true (dLst (dCons true (dC (.int 5)) (dCons true (dC (.int 9)) (dCons true (dC (.int 3)) (dCons true (dC (.int 7)) dNil))))) uNil))) (dC (.bl false)) (δIsB false))))))))
/-- a draw -/
theorem draw_ev {d : D} {n : Int} {Q : DOut → Prop} : sp__law_next [d, .int n] Q = (StOk d ∧ 0 < n ∧ n < 2 ^ 40 ∧ ∀ d' r, StOk d' → 0 ≤ r → r < n → Q (.ret (.int r) .frz [some d', none])) := rfl
theorem law_e1 {c : Xf} {R : DQ} {Ex : DX} {s0 s2 s4 s5 s6 s7 s8 s9 s10 s11 s12 s13 s14 s15 : Slot} {d : D} {wd : Int} (hd : StOk d) (h0 : 0 < wd) (h1 : wd ≤ 2000)
    (l0 : Lo s0) (l2 : Lo s2) (l4 : Lo s4) (l5 : Lo s5) (l6 : Lo s6) (l7 : Lo s7) (l8 : Lo s8) (l9 : Lo s9) (l10 : Lo s10) (l11 : Lo s11) (l12 : Lo s12) (l13 : Lo s13) (l14 : Lo s14) (l15 : Lo s15)
    (k : ∀ d' y, StOk d' → 0 ≤ y → y ≤ 2000 → R (.int y) .frz [s0, some (d', .own (.o .f)), s2, some (.int wd, .frz), s4, s5, s6, s7, s8, s9, s10, s11, s12, s13, s14, s15]) :
    m_law_e1 c [s0, some (d, .own (.o .f)), s2, some (.int wd, .frz), s4, s5, s6, s7, s8, s9, s10, s11, s12, s13, s14, s15] R Ex := by
  have hw : wd < 2 ^ 40 := by omega
  simp (contextual := true) [m_law_e1, ↓draw_ev, hd, h0, hw, sizeLine, ↓nv_lo l0, ↓nv_lo l2, ↓nv_lo l4, ↓nv_lo l5, ↓nv_lo l6, ↓nv_lo l7, ↓nv_lo l8, ↓nv_lo l9, ↓nv_lo l10, ↓nv_lo l11, ↓nv_lo l12, ↓nv_lo l13, ↓nv_lo l14, ↓nv_lo l15]
  refine ⟨hw, fun d1 r1 h1' a1 b1 => ⟨hw, fun d2 r2 h2 a2 b2 d3 r3 h3 a3 b3 => ?_⟩⟩
  obtain rfl | rfl | rfl : r3 = 0 ∨ r3 = 1 ∨ r3 = 2 := by omega
  · exact k _ _ h3 (by decide) (by decide)
  · exact k _ _ h3 a1 (by omega)
  · exact k _ _ h3 a2 (by omega)
/-- the five draws -/
theorem law_lc {c : Xf} {R : List D → Env → Prop} {s0 s2 s4 s5 s6 s7 s8 s10 s11 s12 s13 s14 s15 : Slot} {d : D} {wd : Int} (hd : StOk d) (h0 : 0 < wd) (h1 : wd ≤ 2000)
    (l0 : Lo s0) (l2 : Lo s2) (l4 : Lo s4) (l5 : Lo s5) (l6 : Lo s6) (l7 : Lo s7) (l8 : Lo s8) (l10 : Lo s10) (l11 : Lo s11) (l12 : Lo s12) (l13 : Lo s13) (l14 : Lo s14) (l15 : Lo s15)
    (k : ∀ d' y1 y2 y3 y4 y5, StOk d' → (0 ≤ y1 ∧ y1 ≤ 2000) → (0 ≤ y2 ∧ y2 ≤ 2000) → (0 ≤ y3 ∧ y3 ≤ 2000) → (0 ≤ y4 ∧ y4 ≤ 2000) → (0 ≤ y5 ∧ y5 ≤ 2000) →
      R [.int y1, .int y2, .int y3, .int y4, .int y5] [s0, some (d', .own (.o .f)), s2, some (.int wd, .frz), s4, s5, s6, s7, s8, none, s10, s11, s12, s13, s14, s15]) :
    lcIter [9] (dgName 9) dYes (m_law_e1 c) (rngD 0 5) [s0, some (d, .own (.o .f)), s2, some (.int wd, .frz), s4, s5, s6, s7, s8, none, s10, s11, s12, s13, s14, s15] [] R := by
  have step : ∀ (z : Int) (ds : List (D × Md)) (acc : List D) (d0 : D), StOk d0 → acc.length < 100 → (∀ d' y, StOk d' → 0 ≤ y → y ≤ 2000 → lcIter [9] (dgName 9) dYes (m_law_e1 c) ds [s0, some (d', .own (.o .f)), s2, some (.int wd, .frz), s4, s5, s6, s7, s8, none, s10, s11, s12, s13, s14, s15] (acc ++ [.int y]) R) →
      lcIter [9] (dgName 9) dYes (m_law_e1 c) ((.int z, .frz) :: ds) [s0, some (d0, .own (.o .f)), s2, some (.int wd, .frz), s4, s5, s6, s7, s8, none, s10, s11, s12, s13, s14, s15] acc R := fun z ds acc d0 hd0 hl hk => by
    unfold lcIter
    generalize lcIter [9] (dgName 9) dYes (m_law_e1 c) ds = w at hk
    simp
    refine law_e1 hd0 h0 h1 l0 l2 l4 l5 l6 l7 l8 Lo.s l10 l11 l12 l13 l14 l15 fun d' y h' a b => ?_
    simp [wipeE, ↓nv_lo l0, ↓nv_lo l2, ↓nv_lo l4, ↓nv_lo l5, ↓nv_lo l6, ↓nv_lo l7, ↓nv_lo l8, ↓nv_lo l10, ↓nv_lo l11, ↓nv_lo l12, ↓nv_lo l13, ↓nv_lo l14, ↓nv_lo l15]
    exact ⟨by unfold sizeLine; omega, hk d' y h' a b⟩
  show lcIter [9] (dgName 9) dYes (m_law_e1 c) [(.int 0, .frz), (.int 1, .frz), (.int 2, .frz), (.int 3, .frz), (.int 4, .frz)] _ [] R
  refine step 0 _ _ _ hd (by decide) fun d1 y1 h1 a1 b1 => step 1 _ _ _ h1 (by simp) fun d2 y2 h2 a2 b2 => step 2 _ _ _ h2 (by simp) fun d3 y3 h3 a3 b3 => step 3 _ _ _ h3 (by simp) fun d4 y4 h4 a4 b4 => step 4 _ _ _ h4 (by simp) fun d5 y5 h5 a5 b5 => ?_
  exact k d5 y1 y2 y3 y4 y5 h5 ⟨a1, b1⟩ ⟨a2, b2⟩ ⟨a3, b3⟩ ⟨a4, b4⟩ ⟨a5, b5⟩
/-! ### the arithmetic -/
theorem leastU_ok {f p m : Int} (hf : 0 ≤ f ∧ f ≤ 2000) (hp : 0 ≤ p ∧ p ≤ 2000) (hm : 0 ≤ m ∧ m ≤ 2000) :
    (leastU f p m = .non ∧ p - m ≤ 0 ∧ 0 < f) ∨ ∃ l, leastU f p m = .int l ∧ ¬ (p - m ≤ 0 ∧ 0 < f) ∧ 0 ≤ l ∧ l ≤ 4000 ∧ ¬ ((p - m) * l - f < 0) ∧ ¬ (0 < l ∧ 0 ≤ (p - m) * (l - 1) - f) := by
  unfold leastU
  by_cases h0 : f = 0
  · subst h0
    exact .inr ⟨0, by simp, by omega, by omega, by omega, by omega, by omega⟩
  · by_cases h1 : p - m ≤ 0
    · exact .inl ⟨by rw [if_neg h0, if_pos h1], h1, by omega⟩
    · rw [if_neg h0, if_neg h1]
      obtain ⟨e, he⟩ : ∃ e, e = p - m := ⟨_, rfl⟩
      rw [← he] at h1 ⊢
      have q1 := Int.mul_ediv_add_emod (f + e - 1) e
      have q2 := Int.emod_nonneg (f + e - 1) (show e ≠ 0 by omega)
      have q3 := Int.emod_lt_of_pos (f + e - 1) (show 0 < e by omega)
      have q4 : 0 ≤ (f + e - 1) / e := Int.ediv_nonneg (by omega) (by omega)
      generalize hl : (f + e - 1) / e = l at q1 q4
      have q5 : e * (l - 1) = e * l - e := by rw [Int.mul_sub, Int.mul_one]
      refine .inr ⟨l, rfl, by omega, q4, ?_, by omega, by omega⟩
      have : l ≤ e * l := by
        have := Int.mul_le_mul_of_nonneg_right (show (1 : Int) ≤ e by omega) q4
        omega
      omega
theorem unitsF_ok {f p m g : Int} (hf : 0 ≤ f ∧ f ≤ 2000) (hp : 0 ≤ p ∧ p ≤ 2000) (hm : 0 ≤ m ∧ m ≤ 2000) (hg : 0 ≤ g ∧ g ≤ 2000) :
    (unitsF f p m g = .non ∧ p - m ≤ 0 ∧ 0 < f + g) ∨ ∃ l, unitsF f p m g = .int l ∧ ¬ (p - m ≤ 0 ∧ 0 < f + g) ∧ 0 ≤ l ∧ l ≤ 6000 ∧ ¬ (l * (p - m) - f < g) ∧ ¬ (0 < l ∧ g ≤ (l - 1) * (p - m) - f) := by
  unfold unitsF
  by_cases h0 : f + g = 0
  · exact .inr ⟨0, by simp [h0], by omega, by omega, by omega, by omega, by omega⟩
  · by_cases h1 : p - m ≤ 0
    · exact .inl ⟨by rw [if_neg h0, if_pos h1], h1, by omega⟩
    · rw [if_neg h0, if_neg h1]
      obtain ⟨e, he⟩ : ∃ e, e = p - m := ⟨_, rfl⟩
      rw [← he] at h1 ⊢
      have q1 := Int.mul_ediv_add_emod (f + g + e - 1) e
      have q2 := Int.emod_nonneg (f + g + e - 1) (show e ≠ 0 by omega)
      have q3 := Int.emod_lt_of_pos (f + g + e - 1) (show 0 < e by omega)
      have q4 : 0 ≤ (f + g + e - 1) / e := Int.ediv_nonneg (by omega) (by omega)
      generalize hl : (f + g + e - 1) / e = l at q1 q4
      have q5 : (l - 1) * e = e * l - e := by rw [Int.sub_mul, Int.one_mul, Int.mul_comm]
      have q6 : l * e = e * l := Int.mul_comm _ _
      refine .inr ⟨l, rfl, by omega, q4, ?_, by omega, by omega⟩
      have : l ≤ e * l := by
        have := Int.mul_le_mul_of_nonneg_right (show (1 : Int) ≤ e by omega) q4
        omega
      omega
theorem chk_i {i : Int} (h : 0 ≤ i ∧ i ≤ 2000) : chk (.int i) = some i := chk_int ⟨h.1, by omega⟩
theorem same_ev {n : Nat} {a e : D} {Q : DOut → Prop} (ha : nice a) (he : nice e) (hd : dep e < n) (h : a = e) : (Q (.ret (.bl true) .frz [none, none])) → sp__law_same n [a, e] Q := fun q => ⟨ha, he, hd, fun b hb => by
  cases b with
  | true => exact q
  | false => exact absurd (hb.mpr h) (by decide)⟩
theorem nice_fr (q : Rat) : nice (fr q) := by simp [fr, nice, niceA, sizeLine]
theorem dep_fr (q : Rat) : dep (fr q) < 6 := by simp [fr, dep, depA]
theorem safeP_fr (f p m u : Int) : ∃ q : Rat, safeP f p m u = fr q := by
  unfold safeP
  split
  · split
    · exact ⟨0, rfl⟩
    · exact ⟨_, rfl⟩
  · exact ⟨0, rfl⟩
section
variable {c : Xf} {E : DEnds} {s0 s1 s2 s3 s9 s10 s11 s12 s13 s14 s15 : Slot} {f p m u g : Int}
theorem law_s6 (hf : 0 ≤ f ∧ f ≤ 2000) (hp : 0 ≤ p ∧ p ≤ 2000) (hm : 0 ≤ m ∧ m ≤ 2000) (hu : 0 ≤ u ∧ u ≤ 2000) {due : D} (hd : due = safeP f p m u)
    (k : E.nx [s0, s1, s2, s3, some (.int f, .frz), some (.int p, .frz), some (.int m, .frz), some (.int u, .frz), some (.int g, .frz), s9, s10, s11, s12, some (due, .frz), s14, s15]) :
    m_law_s6 c [s0, s1, s2, s3, some (.int f, .frz), some (.int p, .frz), some (.int m, .frz), some (.int u, .frz), some (.int g, .frz), s9, s10, s11, s12, some (due, .frz), s14, s15] E := by
  subst hd
  obtain ⟨q, hq⟩ := safeP_fr f p m u
  simp [m_law_s6, ↓safeY (chk_i hf) (chk_i hp) (chk_i hm) (chk_i hu)]
  refine same_ev (by rw [hq]; exact nice_fr q) (by rw [hq]; exact nice_fr q) (by rw [hq]; exact dep_fr q) rfl ?_
  simpa using k
theorem law_s5 (hf : 0 ≤ f ∧ f ≤ 2000) (hp : 0 ≤ p ∧ p ≤ 2000) (hm : 0 ≤ m ∧ m ≤ 2000) (hu : 0 ≤ u ∧ u ≤ 2000) {lu : D} (hl : lu = leastU f p m) (l13 : Lo s13)
    (k : ∀ s13, Lo s13 → E.nx [s0, s1, s2, s3, some (.int f, .frz), some (.int p, .frz), some (.int m, .frz), some (.int u, .frz), some (.int g, .frz), s9, some (.int (p - m), .frz), some (lu, .frz), s12, s13, s14, s15]) :
    m_law_s5 c [s0, s1, s2, s3, some (.int f, .frz), some (.int p, .frz), some (.int m, .frz), some (.int u, .frz), some (.int g, .frz), s9, some (.int (p - m), .frz), some (lu, .frz), s12, s13, s14, s15] E := by
  have hk : ∀ due, due = safeP f p m u → m_law_s6 c [s0, s1, s2, s3, some (.int f, .frz), some (.int p, .frz), some (.int m, .frz), some (.int u, .frz), some (.int g, .frz), s9, some (.int (p - m), .frz), some (lu, .frz), s12, some (due, .frz), s14, s15] E := fun due hd => law_s6 hf hp hm hu hd (k _ .s)
  generalize hw : m_law_s6 c = w at hk
  have pd1 : (p - m).natAbs < 2 ^ 64 := by omega
  have md : CMulW (p - m) u := mulS pd1 (by omega)
  rcases leastU_ok hf hp hm with ⟨e, q1, q2⟩ | ⟨l, e, q1, q2, q3, q4, q5⟩
  · have := hk (.tup [.int 0, .int 1]) (by simp [safeP, e])
    rw [e] at hl; subst hl
    by_cases hu0 : 0 < u
    · simpa [m_law_s5, hw, ↓nb_lo l13, sizeLine, hu0] using this
    · simpa [m_law_s5, hw, ↓nb_lo l13, sizeLine, hu0] using this
  · rw [e] at hl; subst hl
    have due : (0 < u ∧ 0 ≤ (p - m) * u - f ∧ safeP f p m u = fr (Rat.divInt (u - l) u)) ∨ (¬ (0 < u ∧ 0 ≤ (p - m) * u - f) ∧ safeP f p m u = .tup [.int 0, .int 1]) := by
      simp only [safeP, e]
      by_cases z : u = 0 ∨ (p - m) * u - f < 0
      · exact .inr ⟨by omega, if_pos z⟩
      · exact .inl ⟨by omega, by omega, if_neg z⟩
    rcases due with ⟨d1, d2, d3⟩ | ⟨d1, d3⟩
    · have := hk _ d3.symm
      have b1 : B8 (u - l) := B8_small (by omega)
      have b2 : B8 u := B8_small (by omega)
      have z1 : 0 < u := d1
      have z2 : 0 ≤ (p - m) * u - f := d2
      have z3 : f ≤ (p - m) * u := by omega
      simp [m_law_s5, hw, ↓nb_lo l13, sizeLine, z1, md, z2, z3, sp__law_fr, b1, b2, fr]
      simpa [fr] using this
    · have := hk _ d3.symm
      by_cases hu0 : 0 < u
      · have z2 : ¬ 0 ≤ (p - m) * u - f := fun z => d1 ⟨hu0, z⟩
        have z3 : ¬ f ≤ (p - m) * u := by omega
        simpa [m_law_s5, hw, ↓nb_lo l13, sizeLine, hu0, md, z2, z3] using this
      · simpa [m_law_s5, hw, ↓nb_lo l13, sizeLine, hu0] using this
theorem law_s4 (hf : 0 ≤ f ∧ f ≤ 2000) (hp : 0 ≤ p ∧ p ≤ 2000) (hm : 0 ≤ m ∧ m ≤ 2000) (hu : 0 ≤ u ∧ u ≤ 2000) (hg : 0 ≤ g ∧ g ≤ 2000) {lu un : D} (hl : lu = leastU f p m) (hn : un = unitsF f p m g) (l13 : Lo s13)
    (k : ∀ s12 s13, Lo s12 → Lo s13 → E.nx [s0, s1, s2, s3, some (.int f, .frz), some (.int p, .frz), some (.int m, .frz), some (.int u, .frz), some (.int g, .frz), s9, some (.int (p - m), .frz), some (lu, .frz), s12, s13, s14, s15]) :
    m_law_s4 c [s0, s1, s2, s3, some (.int f, .frz), some (.int p, .frz), some (.int m, .frz), some (.int u, .frz), some (.int g, .frz), s9, some (.int (p - m), .frz), some (lu, .frz), some (un, .frz), s13, s14, s15] E := by
  have hk := law_s5 (c := c) (E := E) (s0 := s0) (s1 := s1) (s2 := s2) (s3 := s3) (s9 := s9) (s12 := some (un, .frz)) (s14 := s14) (s15 := s15) (g := g) hf hp hm hu hl l13 fun s13 h => k _ s13 .s h
  generalize hw : m_law_s5 c = w at hk
  rcases unitsF_ok hf hp hm hg with ⟨e, q1, q2⟩ | ⟨l, e, q1, q2, q3, q4, q5⟩
  · rw [e] at hn; subst hn
    simpa [m_law_s4, hw] using hk
  · rw [e] at hn; subst hn
    have m1 : CMulW l (p - m) := mulS (by omega) (by omega)
    have m2 : CMulW (l - 1) (p - m) := mulS (by omega) (by omega)
    have q4' : ¬ (l * (p - m) - f < g) := q4
    by_cases hl0 : 0 < l
    · have q5' : ¬ (g ≤ (l - 1) * (p - m) - f) := fun z => q5 ⟨hl0, z⟩
      simpa [m_law_s4, hw, m1, m2, q4', hl0, q5'] using hk
    · simpa [m_law_s4, hw, m1, m2, q4', hl0] using hk
theorem law_s3 (hf : 0 ≤ f ∧ f ≤ 2000) (hp : 0 ≤ p ∧ p ≤ 2000) (hm : 0 ≤ m ∧ m ≤ 2000) (hu : 0 ≤ u ∧ u ≤ 2000) (hg : 0 ≤ g ∧ g ≤ 2000) {lu un : D} (hl : lu = leastU f p m) (hn : un = unitsF f p m g) (l13 : Lo s13)
    (k : ∀ s11 s12 s13, Lo s11 → Lo s12 → Lo s13 → E.nx [s0, s1, s2, s3, some (.int f, .frz), some (.int p, .frz), some (.int m, .frz), some (.int u, .frz), some (.int g, .frz), s9, some (.int (p - m), .frz), s11, s12, s13, s14, s15]) :
    m_law_s3 c [s0, s1, s2, s3, some (.int f, .frz), some (.int p, .frz), some (.int m, .frz), some (.int u, .frz), some (.int g, .frz), s9, some (.int (p - m), .frz), some (lu, .frz), some (un, .frz), s13, s14, s15] E := by
  have hk := law_s4 (c := c) (E := E) (s0 := s0) (s1 := s1) (s2 := s2) (s3 := s3) (s9 := s9) (s14 := s14) (s15 := s15) (g := g) hf hp hm hu hg hl hn l13 fun s12 s13 h12 h13 => k _ s12 s13 .s h12 h13
  generalize hw : m_law_s4 c = w at hk
  rcases leastU_ok hf hp hm with ⟨e, q1, q2⟩ | ⟨l, e, q1, q2, q3, q4, q5⟩
  · rw [e] at hl; subst hl
    simpa [m_law_s3, hw] using hk
  · rw [e] at hl; subst hl
    have q4' : ¬ ((p - m) * l - f < 0) := q4
    have c1 : chk (.int l) = some l := chk_int ⟨q2, by omega⟩
    by_cases hl0 : 0 < l
    · have c2 : chk (.int (l - 1)) = some (l - 1) := chk_int ⟨by omega, by omega⟩
      have q5' : ¬ (0 ≤ (p - m) * (l - 1) - f) := fun z => q5 ⟨hl0, z⟩
      simp [m_law_s3, hw, ↓profitY (chk_i hf) (chk_i hp) (chk_i hm) c1, ↓profitY (chk_i hf) (chk_i hp) (chk_i hm) c2, hl0]
      rw [if_neg q4', if_neg (by omega)]
      simpa using hk
    · simp [m_law_s3, hw, ↓profitY (chk_i hf) (chk_i hp) (chk_i hm) c1, hl0]
      rw [if_neg q4']
      simpa using hk
theorem law_s2 (hf : 0 ≤ f ∧ f ≤ 2000) (hp : 0 ≤ p ∧ p ≤ 2000) (hm : 0 ≤ m ∧ m ≤ 2000) (hu : 0 ≤ u ∧ u ≤ 2000) (hg : 0 ≤ g ∧ g ≤ 2000) {lu un : D} (hl : lu = leastU f p m) (hn : un = unitsF f p m g) (l13 : Lo s13)
    (k : ∀ s11 s12 s13, Lo s11 → Lo s12 → Lo s13 → E.nx [s0, s1, s2, s3, some (.int f, .frz), some (.int p, .frz), some (.int m, .frz), some (.int u, .frz), some (.int g, .frz), s9, some (.int (p - m), .frz), s11, s12, s13, s14, s15]) :
    m_law_s2 c [s0, s1, s2, s3, some (.int f, .frz), some (.int p, .frz), some (.int m, .frz), some (.int u, .frz), some (.int g, .frz), s9, some (.int (p - m), .frz), some (lu, .frz), some (un, .frz), s13, s14, s15] E := by
  have hk := law_s3 (c := c) (E := E) (s0 := s0) (s1 := s1) (s2 := s2) (s3 := s3) (s9 := s9) (s14 := s14) (s15 := s15) (g := g) hf hp hm hu hg hl hn l13 k
  generalize hw : m_law_s3 c = w at hk
  rcases leastU_ok hf hp hm with ⟨e1, q1, q2⟩ | ⟨l, e1, q1, _⟩ <;> rcases unitsF_ok hf hp hm hg with ⟨e2, r1, r2⟩ | ⟨l', e2, r1, _⟩ <;> rw [e1] at hl <;> rw [e2] at hn <;> subst hl <;> subst hn
  · have r2' : 0 < f + g := r2
    simpa [m_law_s2, hw, q1, q2, r2', shp_bl, deq_bl] using hk
  · exact absurd ⟨q1, by omega⟩ r1
  · by_cases h : p - m ≤ 0
    · have z : ¬ 0 < f := fun z => q1 ⟨h, z⟩
      simpa [m_law_s2, hw, h, z, r2, shp_bl, deq_bl] using hk
    · omega
  · by_cases h : p - m ≤ 0
    · have z : ¬ 0 < f := fun z => q1 ⟨h, z⟩
      have z2 : ¬ 0 < f + g := fun z => r1 ⟨h, z⟩
      simpa [m_law_s2, hw, h, z, z2, shp_bl, deq_bl] using hk
    · simpa [m_law_s2, hw, h, shp_bl, deq_bl] using hk
theorem law_s0 (hf : 0 ≤ f ∧ f ≤ 2000) (hp : 0 ≤ p ∧ p ≤ 2000) (hm : 0 ≤ m ∧ m ≤ 2000) (hu : 0 ≤ u ∧ u ≤ 2000) (hg : 0 ≤ g ∧ g ≤ 2000)
    (l10 : Lo s10) (l11 : Lo s11) (l12 : Lo s12) (l13 : Lo s13)
    (k : ∀ s10 s11 s12 s13, Lo s10 → Lo s11 → Lo s12 → Lo s13 → E.nx [s0, s1, s2, s3, some (.int f, .frz), some (.int p, .frz), some (.int m, .frz), some (.int u, .frz), some (.int g, .frz), s9, s10, s11, s12, s13, s14, s15]) :
    m_law_s0 c [s0, s1, s2, s3, some (.int f, .frz), some (.int p, .frz), some (.int m, .frz), some (.int u, .frz), some (.int g, .frz), s9, s10, s11, s12, s13, s14, s15] E := by
  have hk := law_s2 (c := c) (E := E) (s0 := s0) (s1 := s1) (s2 := s2) (s3 := s3) (s9 := s9) (s14 := s14) (s15 := s15) (g := g) hf hp hm hu hg rfl rfl l13 fun s11 s12 s13 h1 h2 h3 => k _ s11 s12 s13 .s h1 h2 h3
  generalize hw : m_law_s2 c = w at hk
  have md : CMulW (p - m) u := mulS (by omega) (by omega)
  have hlu : leastU f p m = .non ∨ ∃ l, leastU f p m = .int l := (leastU_ok hf hp hm).imp (fun h => h.1) fun ⟨l, h, _⟩ => ⟨l, h⟩
  have hun : unitsF f p m g = .non ∨ ∃ l, unitsF f p m g = .int l := (unitsF_ok hf hp hm hg).imp (fun h => h.1) fun ⟨l, h, _⟩ => ⟨l, h⟩
  rcases hlu with e1 | ⟨l, e1⟩ <;> rcases hun with e2 | ⟨l', e2⟩ <;> rw [e1, e2] at hk <;>
  · simp [m_law_s0, m_law_s1, hw, ↓nb_lo l10, ↓nb_lo l11, ↓nb_lo l12, ↓margY (chk_i hp) (chk_i hm), ↓profitY (chk_i hf) (chk_i hp) (chk_i hm) (chk_i hu), ↓leastY (chk_i hf) (chk_i hp) (chk_i hm), ↓unitsY (chk_i hf) (chk_i hp) (chk_i hm) (chk_i hg), e1, e2, shp_int, deq_int, md]
    exact hk
end
theorem law_b2 {c : Xf} {E : DEnds} {s0 s2 s3 s4 s5 s6 s7 s8 s9 s10 s11 s12 s13 s14 s15 : Slot} {d : D} (hd : StOk d)
    (l0 : Lo s0) (l2 : Lo s2) (l3 : Lo s3) (l4 : Lo s4) (l5 : Lo s5) (l6 : Lo s6) (l7 : Lo s7) (l8 : Lo s8) (l9 : Lo s9) (l10 : Lo s10) (l11 : Lo s11) (l12 : Lo s12) (l13 : Lo s13) (l14 : Lo s14) (l15 : Lo s15)
    (k : ∀ d' s3 s4 s5 s6 s7 s8 s9 s10 s11 s12 s13, StOk d' → Lo s3 → Lo s4 → Lo s5 → Lo s6 → Lo s7 → Lo s8 → Lo s9 → Lo s10 → Lo s11 → Lo s12 → Lo s13 → E.nx [s0, some (d', .own (.o .f)), s2, s3, s4, s5, s6, s7, s8, s9, s10, s11, s12, s13, s14, s15]) :
    m_law_b2 c [s0, some (d, .own (.o .f)), s2, s3, s4, s5, s6, s7, s8, s9, s10, s11, s12, s13, s14, s15] E := by
  have wide : ∀ d' wd, StOk d' → 0 < wd → wd ≤ 2000 → ∀ E', (∀ d' y1 y2 y3 y4 y5, StOk d' → (0 ≤ y1 ∧ y1 ≤ 2000) → (0 ≤ y2 ∧ y2 ≤ 2000) → (0 ≤ y3 ∧ y3 ≤ 2000) → (0 ≤ y4 ∧ y4 ≤ 2000) → (0 ≤ y5 ∧ y5 ≤ 2000) →
      E'.nx [s0, some (d', .own (.o .f)), s2, some (.int wd, .frz), some (.int y1, .frz), some (.int y2, .frz), some (.int y3, .frz), some (.int y4, .frz), some (.int y5, .frz), none, s10, s11, s12, s13, s14, s15]) →
      dAsg (dLc [9] (diR1 (dCons true (dC (.int 5)) dNil)) (dgName 9) dYes (m_law_e1 c)) (dgLst 5 (dgCons (dgName 4) (dgCons (dgName 5) (dgCons (dgName 6) (dgCons (dgName 7) (dgCons (dgName 8) dgNil)))))) [s0, some (d', .own (.o .f)), s2, some (.int wd, .frz), s4, s5, s6, s7, s8, s9, s10, s11, s12, s13, s14, s15] E' := fun d' wd hd' w0 w1 E' hk => by
    simp only [dAsg, dLc, diR1, dCons, dNil, dC]
    refine ⟨.inl rfl, ⟨by decide, by decide⟩, ?_⟩
    refine law_lc hd' w0 w1 l0 l2 l4 l5 l6 l7 l8 l10 l11 l12 l13 l14 l15 fun d2 y1 y2 y3 y4 y5 h2 a1 a2 a3 a4 a5 => ?_
    have := hk d2 y1 y2 y3 y4 y5 h2 a1 a2 a3 a4 a5
    simp [↓nb_lo l4, ↓nb_lo l5, ↓nb_lo l6, ↓nb_lo l7, ↓nb_lo l8]
    exact this
  have hr : ∀ r : Int, 0 ≤ r → r < 2 → ∃ wd : Int, atI [D.int 5, D.int 2000] r = some (.int wd) ∧ 0 < wd ∧ wd ≤ 2000 := fun r a b => by
    obtain rfl | rfl : r = 0 ∨ r = 1 := by omega
    · exact ⟨5, rfl, by decide, by decide⟩
    · exact ⟨2000, rfl, by decide, by decide⟩
  unfold m_law_b2
  generalize hT : (dAsg (dLc [9] (diR1 (dCons true (dC (.int 5)) dNil)) (dgName 9) dYes (m_law_e1 c)) (dgLst 5 (dgCons (dgName 4) (dgCons (dgName 5) (dgCons (dgName 6) (dgCons (dgName 7) (dgCons (dgName 8) dgNil))))))) = T at wide
  have key : ∀ d' r, StOk d' → 0 ≤ r → r < 2 → ∀ wd, atI [D.int 5, D.int 2000] r = some (.int wd) → dSeq T (m_law_s0 c) [s0, some (d', .own (.o .f)), s2, some (.int wd, .frz), s4, s5, s6, s7, s8, s9, s10, s11, s12, s13, s14, s15] E := fun d' r hd' a b wd hw => by
    obtain ⟨wd', e, w0, w1⟩ := hr r a b
    rw [hw] at e; cases e
    refine wide d' wd hd' w0 w1 _ fun d2 y1 y2 y3 y4 y5 h2 a1 a2 a3 a4 a5 => ?_
    exact law_s0 a1 a2 a3 a4 a5 l10 l11 l12 l13 fun s10 s11 s12 s13 q10 q11 q12 q13 => k _ _ _ _ _ _ _ _ _ _ _ _ h2 .s .s .s .s .s .s .n q10 q11 q12 q13
  generalize dSeq T (m_law_s0 c) = T' at key
  simp (contextual := true) [↓draw_ev, hd, sizeLine, ↓nb_lo l3, ↓nv_lo l0, ↓nv_lo l2, ↓nv_lo l3, ↓nv_lo l4, ↓nv_lo l5, ↓nv_lo l6, ↓nv_lo l7, ↓nv_lo l8, ↓nv_lo l9, ↓nv_lo l10, ↓nv_lo l11, ↓nv_lo l12, ↓nv_lo l13, ↓nv_lo l14, ↓nv_lo l15]
  intro d' r hd' a b
  obtain ⟨wd', e, w0, w1⟩ := hr r a b
  have := key d' r hd' a b wd' e
  rw [e]
  simpa [↓nb_lo l3] using this

theorem badN_ev {c : Xf} {k : Str} {a b x y : D} {Q : DOut → Prop} (hk : PyData.strOk k = true) (h1 : plainD a) (h2 : plainD b) (h3 : plainD x) (h4 : plainD y) : sp__law_bad c [.str k, .lst [a, b, x, y]] Q = Q (.ret (.bl (badN k a b x y)) .frz [none, none]) := by
  simp [sp__law_bad, hk, h1, h2, h3, h4]
/-- one bad thing at one place -/
theorem law_b3 {c : Xf} {E : DEnds} {s0 s1 s2 s3 s4 s5 s6 s7 s8 s10 s11 s12 s13 s15 : Slot} {bad : D} (pb : plainD bad) (cb : chk bad = none) {i : Int} (hi : 0 ≤ i ∧ i < 4)
    (l0 : Lo s0) (l1 : Lo s1) (l2 : Lo s2) (l3 : Lo s3) (l4 : Lo s4) (l5 : Lo s5) (l6 : Lo s6) (l7 : Lo s7) (l8 : Lo s8) (l10 : Lo s10) (l11 : Lo s11) (l12 : Lo s12) (l13 : Lo s13) (l15 : Lo s15)
    (k : ∀ ns, E.nx [s0, s1, s2, s3, s4, s5, s6, s7, s8, some (.int i, .frz), s10, s11, s12, s13, some (bad, .frz), some (ns, .own (.o .f))]) :
    m_law_b3 c [s0, s1, s2, s3, s4, s5, s6, s7, s8, some (.int i, .frz), s10, s11, s12, s13, some (bad, .frz), s15] E := by
  have e0 : ixN 4 0 = some 0 := by decide
  have e1 : ixN 4 1 = some 1 := by decide
  have e2 : ixN 4 2 = some 2 := by decide
  have e3 : ixN 4 3 = some 3 := by decide
  have p5 : plainD (.int 5) := trivial
  have p9 : plainD (.int 9) := trivial
  have p3 : plainD (.int 3) := trivial
  have p7 : plainD (.int 7) := trivial
  have c5 : (chk (.int 5)).isSome = true := by decide
  have c9 : (chk (.int 9)).isSome = true := by decide
  have c3 : (chk (.int 3)).isSome = true := by decide
  have c7 : (chk (.int 7)).isSome = true := by decide
  have t1 : PyData.strOk (Str.ofString "profit") = true := by decide +kernel
  have t2 : PyData.strOk (Str.ofString "goal") = true := by decide +kernel
  have t3 : PyData.strOk (Str.ofString "safe") = true := by decide +kernel
  have t4 : PyData.strOk (Str.ofString "least") = true := by decide +kernel
  have t5 : PyData.strOk (Str.ofString "margin") = true := by decide +kernel
  have n1 : ∀ z, z = Str.ofString "profit" ∨ z = Str.ofString "goal" ∨ z = Str.ofString "safe" → z ≠ Str.ofString "margin" ∧ z ≠ Str.ofString "least" := fun z hz => by
    rcases hz with rfl | rfl | rfl <;> decide +kernel
  have n2 : Str.ofString "least" ≠ Str.ofString "margin" := by decide +kernel
  obtain rfl | rfl | rfl | rfl : i = 0 ∨ i = 1 ∨ i = 2 ∨ i = 3 := by omega
  all_goals
    have k' := k
    simp [m_law_b3, ↓nb_lo l15, ↓nv_lo l0, ↓nv_lo l1, ↓nv_lo l2, ↓nv_lo l3, ↓nv_lo l4, ↓nv_lo l5, ↓nv_lo l6, ↓nv_lo l7, ↓nv_lo l8, ↓nv_lo l10, ↓nv_lo l11, ↓nv_lo l12, ↓nv_lo l13, e0, e1, e2, e3, sizeLine,
      ↓badN_ev t1 pb p9 p3 p7, ↓badN_ev t2 pb p9 p3 p7, ↓badN_ev t3 pb p9 p3 p7, ↓badN_ev t4 pb p9 p3 p7, ↓badN_ev t5 pb p9 p3 p7,
      ↓badN_ev t1 p5 pb p3 p7, ↓badN_ev t2 p5 pb p3 p7, ↓badN_ev t3 p5 pb p3 p7, ↓badN_ev t4 p5 pb p3 p7, ↓badN_ev t5 p5 pb p3 p7,
      ↓badN_ev t1 p5 p9 pb p7, ↓badN_ev t2 p5 p9 pb p7, ↓badN_ev t3 p5 p9 pb p7, ↓badN_ev t4 p5 p9 pb p7, ↓badN_ev t5 p5 p9 pb p7,
      ↓badN_ev t1 p5 p9 p3 pb, ↓badN_ev t2 p5 p9 p3 pb, ↓badN_ev t3 p5 p9 p3 pb, ↓badN_ev t4 p5 p9 p3 pb, ↓badN_ev t5 p5 p9 p3 pb,
      badN, n1, n2, cb, c5, c9, c3, c7]
    try exact k _
theorem law_b4 {c : Xf} {E : DEnds} {s0 s1 s2 s3 s4 s5 s6 s7 s8 s9 s10 s11 s12 s13 s15 : Slot} {bad : D} (pb : plainD bad) (cb : chk bad = none)
    (l0 : Lo s0) (l1 : Lo s1) (l2 : Lo s2) (l3 : Lo s3) (l4 : Lo s4) (l5 : Lo s5) (l6 : Lo s6) (l7 : Lo s7) (l8 : Lo s8) (l9 : Lo s9) (l10 : Lo s10) (l11 : Lo s11) (l12 : Lo s12) (l13 : Lo s13) (l15 : Lo s15)
    (k : ∀ s9 s15, Lo s9 → Lo s15 → E.nx [s0, s1, s2, s3, s4, s5, s6, s7, s8, s9, s10, s11, s12, s13, some (bad, .frz), s15]) :
    m_law_b4 c [s0, s1, s2, s3, s4, s5, s6, s7, s8, s9, s10, s11, s12, s13, some (bad, .frz), s15] E := by
  simp only [m_law_b4, dFor, diR1, dCons, dNil, dC]
  refine ⟨.inl rfl, ⟨by decide, by decide⟩, ?_⟩
  show forIter _ _ [(.int 0, .frz), (.int 1, .frz), (.int 2, .frz), (.int 3, .frz)] _ E
  have step : ∀ (i : Int) (ds : List (D × Md)) (s9 s15 : Slot), (0 ≤ i ∧ i < 4) → Lo s9 → Lo s15 → (∀ ns, forIter (dgName 9) (m_law_b3 c) ds [s0, s1, s2, s3, s4, s5, s6, s7, s8, some (.int i, .frz), s10, s11, s12, s13, some (bad, .frz), some (ns, .own (.o .f))] E) →
      forIter (dgName 9) (m_law_b3 c) ((.int i, .frz) :: ds) [s0, s1, s2, s3, s4, s5, s6, s7, s8, s9, s10, s11, s12, s13, some (bad, .frz), s15] E := fun i ds s9 s15 hi l9 l15 hk => by
    unfold forIter
    generalize forIter (dgName 9) (m_law_b3 c) ds = w at hk
    simp [↓nb_lo l9]
    exact law_b3 pb cb hi l0 l1 l2 l3 l4 l5 l6 l7 l8 l10 l11 l12 l13 l15 hk
  refine step 0 _ _ _ (by decide) l9 l15 fun n1 => step 1 _ _ _ (by decide) .s .o fun n2 => step 2 _ _ _ (by decide) .s .o fun n3 => step 3 _ _ _ (by decide) .s .o fun n4 => ?_
  exact k _ _ .s .o
theorem d_law (c : Xf) (ds : List D) (vs : List V) (Q : DOut → Prop) (h1 : ds.length = 1) (h2 : vs.length = 1) (h : spLaw 63 ds Q) : m_law c (defEnv pm_law ds vs 15) (defEnds pm_law vs Q) := by
  match vs, h2 with
  | [v0], _ =>
    obtain ⟨ns, rfl, hn, hq⟩ := h
    show m_law c [some (.scr ns, .lent), none, none, none, none, none, none, none, none, none, none, none, none, none, none, none] _
    have st : StOk (.lst [.lst (ns.map D.int), .int 0, .int 0, .int 1]) := ⟨ns, 0, 0, 1, rfl, hn, by omega, by omega, by omega, by omega⟩
    -- the turns
    have turns : ∀ (E : DEnds), (∀ s1 s2 s3 s4 s5 s6 s7 s8 s9 s10 s11 s12 s13 s14 s15, Lo s1 → Lo s2 → Lo s3 → Lo s4 → Lo s5 → Lo s6 → Lo s7 → Lo s8 → Lo s9 → Lo s10 → Lo s11 → Lo s12 → Lo s13 → Lo s14 → Lo s15 →
        E.nx [some (.scr ns, .lent), s1, s2, s3, s4, s5, s6, s7, s8, s9, s10, s11, s12, s13, s14, s15]) →
        dFor (diR1 (dCons true (dC (.int 6)) dNil)) (dgName 2) (m_law_b2 c) [some (.scr ns, .lent), some (.lst [.lst (ns.map D.int), .int 0, .int 0, .int 1], .own (.o .f)), none, none, none, none, none, none, none, none, none, none, none, none, none, none] E := fun E hE => by
      simp only [dFor, diR1, dCons, dNil, dC]
      refine ⟨.inl rfl, ⟨by decide, by decide⟩, ?_⟩
      refine forIter_inv (fun ds e => ∃ d s2 s3 s4 s5 s6 s7 s8 s9 s10 s11 s12 s13 s14 s15, e = [some (.scr ns, .lent), some (d, .own (.o .f)), s2, s3, s4, s5, s6, s7, s8, s9, s10, s11, s12, s13, s14, s15] ∧ StOk d ∧ Lo s2 ∧ Lo s3 ∧ Lo s4 ∧ Lo s5 ∧ Lo s6 ∧ Lo s7 ∧ Lo s8 ∧ Lo s9 ∧ Lo s10 ∧ Lo s11 ∧ Lo s12 ∧ Lo s13 ∧ Lo s14 ∧ Lo s15 ∧ ∀ q ∈ ds, ∃ i, q = (.int i, .frz)) ?_ ?_ _ _
        ⟨_, _, _, _, _, _, _, _, _, _, _, _, _, _, _, rfl, st, .n, .n, .n, .n, .n, .n, .n, .n, .n, .n, .n, .n, .n, .n, fun q hq => ?_⟩
      · rintro e ⟨d, s2, s3, s4, s5, s6, s7, s8, s9, s10, s11, s12, s13, s14, s15, rfl, hd, l2, l3, l4, l5, l6, l7, l8, l9, l10, l11, l12, l13, l14, l15, _⟩
        exact hE _ _ _ _ _ _ _ _ _ _ _ _ _ _ _ .o l2 l3 l4 l5 l6 l7 l8 l9 l10 l11 l12 l13 l14 l15
      · rintro x md ds e ⟨d, s2, s3, s4, s5, s6, s7, s8, s9, s10, s11, s12, s13, s14, s15, rfl, hd, l2, l3, l4, l5, l6, l7, l8, l9, l10, l11, l12, l13, l14, l15, hi⟩ E' hn' hc' hb' hr' he'
        obtain ⟨i, hi0⟩ := hi _ List.mem_cons_self
        cases hi0
        simp [↓nb_lo l2]
        exact law_b2 hd .l .s l3 l4 l5 l6 l7 l8 l9 l10 l11 l12 l13 l14 l15 fun d' s3 s4 s5 s6 s7 s8 s9 s10 s11 s12 s13 hd' q3 q4 q5 q6 q7 q8 q9 q10 q11 q12 q13 =>
          hn' _ ⟨d', _, _, _, _, _, _, _, _, _, _, _, _, _, _, rfl, hd', .s, q3, q4, q5, q6, q7, q8, q9, q10, q11, q12, q13, l14, l15, fun q hq => hi q (List.mem_cons_of_mem _ hq)⟩
      · simp [rngD] at hq
        obtain ⟨i, _, rfl⟩ := hq
        exact ⟨_, rfl⟩
    -- the bad ones
    have bads : ∀ (E : DEnds) (s1 s2 s3 s4 s5 s6 s7 s8 s9 s10 s11 s12 s13 s14 s15 : Slot), Lo s1 → Lo s2 → Lo s3 → Lo s4 → Lo s5 → Lo s6 → Lo s7 → Lo s8 → Lo s9 → Lo s10 → Lo s11 → Lo s12 → Lo s13 → Lo s14 → Lo s15 →
        (∀ s9 s14 s15, E.nx [some (.scr ns, .lent), s1, s2, s3, s4, s5, s6, s7, s8, s9, s10, s11, s12, s13, s14, s15]) →
        dFor (diL (dLst (dCons true (δU negOf (dC (.int 1))) (dCons true (dC (.int 1000001)) (dCons true (dC (.bl true)) (dCons true (dC .non) dNil)))))) (dgName 14) (m_law_b4 c) [some (.scr ns, .lent), s1, s2, s3, s4, s5, s6, s7, s8, s9, s10, s11, s12, s13, s14, s15] E :=
      fun E s1 s2 s3 s4 s5 s6 s7 s8 s9 s10 s11 s12 s13 s14 s15 l1 l2 l3 l4 l5 l6 l7 l8 l9 l10 l11 l12 l13 l14 l15 hE => by
      have step : ∀ (b : D) (ds : List (D × Md)) (s9 s14 s15 : Slot), plainD b → chk b = none → Lo s9 → Lo s14 → Lo s15 → (∀ s9 s15, Lo s9 → Lo s15 → forIter (dgName 14) (m_law_b4 c) ds [some (.scr ns, .lent), s1, s2, s3, s4, s5, s6, s7, s8, s9, s10, s11, s12, s13, some (b, .frz), s15] E) →
          flat b = true → forIter (dgName 14) (m_law_b4 c) ((b, .frz) :: ds) [some (.scr ns, .lent), s1, s2, s3, s4, s5, s6, s7, s8, s9, s10, s11, s12, s13, s14, s15] E := fun b ds s9 s14 s15 pb cb l9 l14 l15 hk fb => by
        unfold forIter
        generalize forIter (dgName 14) (m_law_b4 c) ds = w at hk
        have kb : keepMd b .frz = some .frz := by unfold keepMd; rw [if_pos fb]
        have kk : ∀ k, keepK b .frz k = k .frz := fun k => propext (by rw [keepK_iff, kb])
        simp [↓nb_lo l14, ↓kk]
        exact law_b4 pb cb .l l1 l2 l3 l4 l5 l6 l7 l8 l9 l10 l11 l12 l13 l15 hk
      generalize hT : forIter (dgName 14) (m_law_b4 c) = T at step
      have key : T [(.int (-1), .frz), (.int 1000001, .frz), (.bl true, .frz), (.non, .frz)] [some (.scr ns, .lent), s1, s2, s3, s4, s5, s6, s7, s8, s9, s10, s11, s12, s13, s14, s15] E :=
        step _ _ _ _ _ trivial (by decide) l9 l14 l15 (fun s9 s15 l9 l15 => step _ _ _ _ _ trivial (by decide) l9 .s l15 (fun s9 s15 l9 l15 => step _ _ _ _ _ trivial (by decide) l9 .s l15 (fun s9 s15 l9 l15 => step _ _ _ _ _ trivial (by decide) l9 .s l15 (fun s9 s15 l9 l15 => by
          subst hT; exact hE _ _ _) rfl) rfl) rfl) rfl
      simpa [-forIter, dFor, hT, sizeLine] using key
    -- the end
    have e1 : chk (.int 0) = some 0 := by decide
    have e2 : chk (.int 1000000) = some 1000000 := by decide
    have e3 : chk (.int 999999) = some 999999 := by decide
    have t1 : PyData.strOk (Str.ofString "profit") = true := by decide +kernel
    have b1 : badN (Str.ofString "profit") (.int 5) (.int 9) (.int 3) (.int 7) = false := by decide +kernel
    generalize hT1 : dFor (diR1 (dCons true (dC (.int 6)) dNil)) (dgName 2) (m_law_b2 c) = T1 at turns
    generalize hT2 : dFor (diL (dLst (dCons true (δU negOf (dC (.int 1))) (dCons true (dC (.int 1000001)) (dCons true (dC (.bl true)) (dCons true (dC .non) dNil)))))) (dgName 14) (m_law_b4 c) = T2 at bads
    simp [m_law, hT1, hT2, sizeLine]
    refine turns _ fun s1 s2 s3 s4 s5 s6 s7 s8 s9 s10 s11 s12 s13 s14 s15 l1 l2 l3 l4 l5 l6 l7 l8 l9 l10 l11 l12 l13 l14 l15 => ?_
    simp
    refine bads _ _ _ _ _ _ _ _ _ _ _ _ _ _ _ _ l1 l2 l3 l4 l5 l6 l7 l8 l9 l10 l11 l12 l13 l14 l15 fun s9 s14 s15 => ?_
    simp [↓leastY e1 e1 e2, ↓leastY e2 e2 e3, leastU, shp_int, deq_int, sizeLine, ↓badN_ev (a := .int 5) (b := .int 9) (x := .int 3) (y := .int 7) t1 trivial trivial trivial trivial, b1]
    exact hq
/-! ### the text by places; each def's body -/
def top (i : Nat) : Stmt := PySem.Challenge.pw_samegate_k61_units_that_bear_costs.main.body.getD i (.Pass ⟨0, 0, 0, 0⟩)
abbrev s_is_number : Stmt := top 5
abbrev N_is_number : List Str := ["value", "least", "most"]
theorem sc_is_number : FnScope N_is_number ["value", "least", "most"] (defScope s_is_number) := ⟨rfl, rfl, rfl, by decide +kernel, rfl, by decide +kernel, by decide +kernel⟩
theorem w_is_number {P : Program} {w : World} {K : PySem.W.Frag} {mg : Str → Option Value} {base : Heap} {f : Addr} (c : Xf) (hc : ∀ x v, c.tr x v = PySem.W.exmOne K v (.ref (c.a x))) (B : Bn mg) (cdv : Value) (A : Around) (outer : List PySem.Env) (s : Shared) (H : Hp) (E : XK) (W : WX) (tk : Takes (cxOf (CX P w) P w K mg base N_is_number "is_number" (defScope s_is_number) f cdv A outer s H E) W) (hr : Room 0 (A.deeper (envOfC "is_number" (defScope s_is_number) s.heap.objs.size f cdv))) :
    PDSs (cxOf (CX P w) P w K mg base N_is_number "is_number" (defScope s_is_number) f cdv A outer s H E) W (defBody s_is_number) (m_is_number c) :=
 (pds_one (pds_ret (pd_and (pd_isi .int (pd_slot 0) (by rfl) B.isi (by rfl) B.int (by decide +kernel)) (pd_and (pd_not (pd_isi .bool (pd_slot 0) (by rfl) B.isi (by rfl) B.bool (by decide +kernel))) (pd_one (pd_chainI (g := (fun i j => decide (i ≤ j))) (g' := (fun i j => decide (i ≤ j))) op_le op_le (pd_slot 1) (pd_slot 0) (pd_slot 2)))))))
abbrev s_checked_number : Stmt := top 6
abbrev N_checked_number : List Str := ["value", "least", "most"]
theorem sc_checked_number : FnScope N_checked_number ["value", "least", "most"] (defScope s_checked_number) := ⟨rfl, rfl, rfl, by decide +kernel, rfl, by decide +kernel, by decide +kernel⟩
theorem w_checked_number {P : Program} {w : World} {K : PySem.W.Frag} {mg : Str → Option Value} {base : Heap} {f : Addr} (c : Xf) (hc : ∀ x v, c.tr x v = PySem.W.exmOne K v (.ref (c.a x))) (B : Bn mg) (D_is_number_3 : DFun P w K mg base 1 "is_number" pm_is_number sp_is_number []) (X_InvalidNumber : ExK K mg "InvalidNumber" (c.a "InvalidNumber")) (cdv : Value) (A : Around) (outer : List PySem.Env) (s : Shared) (H : Hp) (E : XK) (W : WX) (tk : Takes (cxOf (CX P w) P w K mg base N_checked_number "checked_number" (defScope s_checked_number) f cdv A outer s H E) W) (hr : Room 1 (A.deeper (envOfC "checked_number" (defScope s_checked_number) s.heap.objs.size f cdv))) :
    PDSs (cxOf (CX P w) P w K mg base N_checked_number "checked_number" (defScope s_checked_number) f cdv A outer s H E) W (defBody s_checked_number) (m_checked_number c) :=
 (pds_cons (pds_if (pdt_not (pdt_val (pd_callP tk D_is_number_3 (by exact hr.mono (by omega)) (by rfl) (pdu_ln 0 (pdu_ln 1 (pdu_ln 2 pdu_nil))))))
 (pds_one (pds_raiseK X_InvalidNumber rfl tk (by rfl) (pda_cons (pd_add (pd_add (pd_add pd_str (pd_callT cd_str call_str_int (by rfl) B.str (by decide +kernel) (pda_cons (pd_slot 1) pda_nil))) pd_str) (pd_callT cd_str call_str_int (by rfl) B.str (by decide +kernel) (pda_cons (pd_slot 2) pda_nil))) pda_nil)))
 pds_nil)
 (pds_one (pds_ret (pd_move 0))))
abbrev s_margin_of : Stmt := top 12
abbrev N_margin_of : List Str := ["price", "moving"]
theorem sc_margin_of : FnScope N_margin_of ["price", "moving"] (defScope s_margin_of) := ⟨rfl, rfl, rfl, by decide +kernel, rfl, by decide +kernel, by decide +kernel⟩
theorem w_margin_of {P : Program} {w : World} {K : PySem.W.Frag} {mg : Str → Option Value} {base : Heap} {f : Addr} (c : Xf) (hc : ∀ x v, c.tr x v = PySem.W.exmOne K v (.ref (c.a x))) (B : Bn mg) (D_checked_number_1 : DFun P w K mg base 2 "checked_number" pm_checked_number (sp_checked_number c) [.int 0, .int 1000000]) (cdv : Value) (A : Around) (outer : List PySem.Env) (s : Shared) (H : Hp) (E : XK) (W : WX) (tk : Takes (cxOf (CX P w) P w K mg base N_margin_of "margin_of" (defScope s_margin_of) f cdv A outer s H E) W) (hr : Room 2 (A.deeper (envOfC "margin_of" (defScope s_margin_of) s.heap.objs.size f cdv))) :
    PDSs (cxOf (CX P w) P w K mg base N_margin_of "margin_of" (defScope s_margin_of) f cdv A outer s H E) W (defBody s_margin_of) (m_margin_of c) :=
 (pds_one (pds_ret (pd_sub (pd_callP tk D_checked_number_1 (by exact hr.mono (by omega)) (by rfl) (pdu_ln 0 pdu_nil)) (pd_callP tk D_checked_number_1 (by exact hr.mono (by omega)) (by rfl) (pdu_ln 1 pdu_nil)))))
abbrev s_least_units : Stmt := top 13
abbrev N_least_units : List Str := ["fixed", "price", "moving", "each"]
theorem sc_least_units : FnScope N_least_units ["fixed", "price", "moving"] (defScope s_least_units) := ⟨rfl, rfl, rfl, by decide +kernel, rfl, by decide +kernel, by decide +kernel⟩
theorem w_least_units {P : Program} {w : World} {K : PySem.W.Frag} {mg : Str → Option Value} {base : Heap} {f : Addr} (c : Xf) (hc : ∀ x v, c.tr x v = PySem.W.exmOne K v (.ref (c.a x))) (B : Bn mg) (D_checked_number_1 : DFun P w K mg base 2 "checked_number" pm_checked_number (sp_checked_number c) [.int 0, .int 1000000]) (D_margin_of_2 : DFun P w K mg base 3 "margin_of" pm_margin_of (sp_margin_of c) []) (cdv : Value) (A : Around) (outer : List PySem.Env) (s : Shared) (H : Hp) (E : XK) (W : WX) (tk : Takes (cxOf (CX P w) P w K mg base N_least_units "least_units" (defScope s_least_units) f cdv A outer s H E) W) (hr : Room 3 (A.deeper (envOfC "least_units" (defScope s_least_units) s.heap.objs.size f cdv))) :
    PDSs (cxOf (CX P w) P w K mg base N_least_units "least_units" (defScope s_least_units) f cdv A outer s H E) W (defBody s_least_units) (m_least_units c) :=
 (pds_cons (pds_expr (pd_callP tk D_checked_number_1 (by exact hr.mono (by omega)) (by rfl) (pdu_ln 0 pdu_nil)))
 (pds_cons (pds_set (i := 3) sc_least_units.nd rfl (by first | exact Or.inl rfl | exact Or.inr rfl) (pd_callP tk D_margin_of_2 (by exact hr.mono (by omega)) (by rfl) (pdu_ln 1 (pdu_ln 2 pdu_nil))))
 (pds_cons (pds_if (pdt_eq (by exact hr.units) (pd_slot 0) pd_int)
 (pds_one (pds_ret pd_int))
 pds_nil)
 (pds_one (pds_ret (pd_ifx (pdt_le  (pd_slot 3) pd_int) pd_non (pd_fdiv (pd_sub (pd_add (pd_slot 0) (pd_slot 3)) pd_int) (pd_slot 3))))))))
abbrev s_profit : Stmt := top 14
abbrev N_profit : List Str := ["fixed", "price", "moving", "units"]
theorem sc_profit : FnScope N_profit ["fixed", "price", "moving", "units"] (defScope s_profit) := ⟨rfl, rfl, rfl, by decide +kernel, rfl, by decide +kernel, by decide +kernel⟩
theorem w_profit {P : Program} {w : World} {K : PySem.W.Frag} {mg : Str → Option Value} {base : Heap} {f : Addr} (c : Xf) (hc : ∀ x v, c.tr x v = PySem.W.exmOne K v (.ref (c.a x))) (B : Bn mg) (D_checked_number_1 : DFun P w K mg base 2 "checked_number" pm_checked_number (sp_checked_number c) [.int 0, .int 1000000]) (D_margin_of_2 : DFun P w K mg base 3 "margin_of" pm_margin_of (sp_margin_of c) []) (cdv : Value) (A : Around) (outer : List PySem.Env) (s : Shared) (H : Hp) (E : XK) (W : WX) (tk : Takes (cxOf (CX P w) P w K mg base N_profit "profit" (defScope s_profit) f cdv A outer s H E) W) (hr : Room 3 (A.deeper (envOfC "profit" (defScope s_profit) s.heap.objs.size f cdv))) :
    PDSs (cxOf (CX P w) P w K mg base N_profit "profit" (defScope s_profit) f cdv A outer s H E) W (defBody s_profit) (m_profit c) :=
 (pds_cons (pds_expr (pd_callP tk D_checked_number_1 (by exact hr.mono (by omega)) (by rfl) (pdu_ln 0 pdu_nil)))
 (pds_one (pds_ret (pd_sub (pd_mul (pd_callP tk D_margin_of_2 (by exact hr.mono (by omega)) (by rfl) (pdu_ln 1 (pdu_ln 2 pdu_nil))) (pd_callP tk D_checked_number_1 (by exact hr.mono (by omega)) (by rfl) (pdu_ln 3 pdu_nil))) (pd_slot 0)))))
abbrev s_common : Stmt := top 9
abbrev N_common : List Str := ["one", "other"]
theorem sc_common : FnScope N_common ["one", "other"] (defScope s_common) := ⟨rfl, rfl, rfl, by decide +kernel, rfl, by decide +kernel, by decide +kernel⟩
theorem w_common {P : Program} {w : World} {K : PySem.W.Frag} {mg : Str → Option Value} {base : Heap} {f : Addr} (c : Xf) (hc : ∀ x v, c.tr x v = PySem.W.exmOne K v (.ref (c.a x))) (B : Bn mg) (cdv : Value) (A : Around) (outer : List PySem.Env) (s : Shared) (H : Hp) (E : XK) (W : WX) (tk : Takes (cxOf (CX P w) P w K mg base N_common "common" (defScope s_common) f cdv A outer s H E) W) (hr : Room 0 (A.deeper (envOfC "common" (defScope s_common) s.heap.objs.size f cdv))) :
    PDSs (cxOf (CX P w) P w K mg base N_common "common" (defScope s_common) f cdv A outer s H E) W (defBody s_common) (m_common c) :=
 (pds_cons (pds_par (i := 0) (j := 1) rfl sc_common.nd rfl rfl (by decide) rfl rfl (pda_cons (pd_callB cd_abs call_abs (by rfl) B.abs (by decide +kernel) (pda_cons (pd_slot 0) pda_nil)) (pda_cons (pd_callB cd_abs call_abs (by rfl) B.abs (by decide +kernel) (pda_cons (pd_slot 1) pda_nil)) pda_nil)))
 (pds_cons (pds_while (passes_of rfl) (pdt_gt  (pd_slot 1) pd_int)
 (pds_one (pds_par (i := 0) (j := 1) rfl sc_common.nd rfl rfl (by decide) rfl rfl (pda_cons (pd_slotF 1) (pda_cons (pd_sub (pd_slot 0) (pd_mul (pd_fdiv (pd_slot 0) (pd_slot 1)) (pd_slot 1))) pda_nil)))))
 (pds_one (pds_ret (pd_move 0)))))
abbrev s_frac : Stmt := top 10
abbrev N_frac : List Str := ["over", "under", "part"]
theorem sc_frac : FnScope N_frac ["over", "under"] (defScope s_frac) := ⟨rfl, rfl, rfl, by decide +kernel, rfl, by decide +kernel, by decide +kernel⟩
theorem w_frac {P : Program} {w : World} {K : PySem.W.Frag} {mg : Str → Option Value} {base : Heap} {f : Addr} (c : Xf) (hc : ∀ x v, c.tr x v = PySem.W.exmOne K v (.ref (c.a x))) (B : Bn mg) (D_common_2 : DFun P w K mg base 1 "common" pm_common sp_common []) (X_InvalidNumber : ExK K mg "InvalidNumber" (c.a "InvalidNumber")) (cdv : Value) (A : Around) (outer : List PySem.Env) (s : Shared) (H : Hp) (E : XK) (W : WX) (tk : Takes (cxOf (CX P w) P w K mg base N_frac "frac" (defScope s_frac) f cdv A outer s H E) W) (hr : Room 1 (A.deeper (envOfC "frac" (defScope s_frac) s.heap.objs.size f cdv))) :
    PDSs (cxOf (CX P w) P w K mg base N_frac "frac" (defScope s_frac) f cdv A outer s H E) W (defBody s_frac) (m_frac c) :=
 (pds_cons (pds_if (pdt_eq (by exact hr.units) (pd_slot 1) pd_int)
 (pds_one (pds_raiseK X_InvalidNumber rfl tk (by rfl) (pda_cons pd_str pda_nil)))
 pds_nil)
 (pds_cons (pds_set (i := 2) sc_frac.nd rfl (by first | exact Or.inl rfl | exact Or.inr rfl) (pd_callP tk D_common_2 (by exact hr.mono (by omega)) (by rfl) (pdu_ln 0 (pdu_ln 1 pdu_nil))))
 (pds_cons (pds_if (pdt_lt  (pd_slot 1) pd_int)
 (pds_one (pds_set (i := 2) sc_frac.nd rfl (by first | exact Or.inl rfl | exact Or.inr rfl) (pd_neg (pd_slot 2))))
 pds_nil)
 (pds_one (pds_ret (pd_tup (pda_cons (pd_fdiv (pd_slot 0) (pd_slot 2)) (pda_cons (pd_fdiv (pd_slot 1) (pd_slot 2)) pda_nil))))))))
abbrev s_safe_part : Stmt := top 16
abbrev N_safe_part : List Str := ["fixed", "price", "moving", "units", "least"]
theorem sc_safe_part : FnScope N_safe_part ["fixed", "price", "moving", "units"] (defScope s_safe_part) := ⟨rfl, rfl, rfl, by decide +kernel, rfl, by decide +kernel, by decide +kernel⟩
theorem w_safe_part {P : Program} {w : World} {K : PySem.W.Frag} {mg : Str → Option Value} {base : Heap} {f : Addr} (c : Xf) (hc : ∀ x v, c.tr x v = PySem.W.exmOne K v (.ref (c.a x))) (B : Bn mg) (D_checked_number_1 : DFun P w K mg base 2 "checked_number" pm_checked_number (sp_checked_number c) [.int 0, .int 1000000]) (D_frac_2 : DFun P w K mg base 2 "frac" pm_frac (sp_frac c) []) (D_least_units_3 : DFun P w K mg base 4 "least_units" pm_least_units (sp_least_units c) []) (D_profit_4 : DFun P w K mg base 4 "profit" pm_profit (sp_profit c) []) (g_NOUGHT : GlK K mg "NOUGHT" (.tup [.int 0, .int 1])) (cdv : Value) (A : Around) (outer : List PySem.Env) (s : Shared) (H : Hp) (E : XK) (W : WX) (tk : Takes (cxOf (CX P w) P w K mg base N_safe_part "safe_part" (defScope s_safe_part) f cdv A outer s H E) W) (hr : Room 4 (A.deeper (envOfC "safe_part" (defScope s_safe_part) s.heap.objs.size f cdv))) :
    PDSs (cxOf (CX P w) P w K mg base N_safe_part "safe_part" (defScope s_safe_part) f cdv A outer s H E) W (defBody s_safe_part) (m_safe_part c) :=
 (pds_cons (pds_set (i := 4) sc_safe_part.nd rfl (by first | exact Or.inl rfl | exact Or.inr rfl) (pd_callP tk D_least_units_3 (by exact hr.mono (by omega)) (by rfl) (pdu_ln 0 (pdu_ln 1 (pdu_ln 2 pdu_nil)))))
 (pds_cons (pds_expr (pd_callP tk D_checked_number_1 (by exact hr.mono (by omega)) (by rfl) (pdu_ln 3 pdu_nil)))
 (pds_cons (pds_if (pdt_bool (pdw_or (pdt_eq (by exact hr.units) (pd_slot 3) pd_int) (pdw_or (pdt_is  (pd_slot 4) pd_non) (pdw_or1 (pdt_lt  (pd_callP tk D_profit_4 (by exact hr.mono (by omega)) (by rfl) (pdu_ln 0 (pdu_ln 1 (pdu_ln 2 (pdu_ln 3 pdu_nil))))) pd_int)))))
 (pds_one (pds_ret (pd_gl g_NOUGHT (by rfl))))
 pds_nil)
 (pds_one (pds_ret (pd_callP tk D_frac_2 (by exact hr.mono (by omega)) (by rfl) (pdu_val (pd_sub (pd_slot 3) (pd_slot 4)) (pdu_ln 3 pdu_nil))))))))
abbrev s_units_for : Stmt := top 15
abbrev N_units_for : List Str := ["fixed", "price", "moving", "goal", "each"]
theorem sc_units_for : FnScope N_units_for ["fixed", "price", "moving", "goal"] (defScope s_units_for) := ⟨rfl, rfl, rfl, by decide +kernel, rfl, by decide +kernel, by decide +kernel⟩
theorem w_units_for {P : Program} {w : World} {K : PySem.W.Frag} {mg : Str → Option Value} {base : Heap} {f : Addr} (c : Xf) (hc : ∀ x v, c.tr x v = PySem.W.exmOne K v (.ref (c.a x))) (B : Bn mg) (D_checked_number_1 : DFun P w K mg base 2 "checked_number" pm_checked_number (sp_checked_number c) [.int 0, .int 1000000]) (D_margin_of_2 : DFun P w K mg base 3 "margin_of" pm_margin_of (sp_margin_of c) []) (cdv : Value) (A : Around) (outer : List PySem.Env) (s : Shared) (H : Hp) (E : XK) (W : WX) (tk : Takes (cxOf (CX P w) P w K mg base N_units_for "units_for" (defScope s_units_for) f cdv A outer s H E) W) (hr : Room 3 (A.deeper (envOfC "units_for" (defScope s_units_for) s.heap.objs.size f cdv))) :
    PDSs (cxOf (CX P w) P w K mg base N_units_for "units_for" (defScope s_units_for) f cdv A outer s H E) W (defBody s_units_for) (m_units_for c) :=
 (pds_cons (pds_expr (pd_callP tk D_checked_number_1 (by exact hr.mono (by omega)) (by rfl) (pdu_ln 0 pdu_nil)))
 (pds_cons (pds_expr (pd_callP tk D_checked_number_1 (by exact hr.mono (by omega)) (by rfl) (pdu_ln 3 pdu_nil)))
 (pds_cons (pds_set (i := 4) sc_units_for.nd rfl (by first | exact Or.inl rfl | exact Or.inr rfl) (pd_callP tk D_margin_of_2 (by exact hr.mono (by omega)) (by rfl) (pdu_ln 1 (pdu_ln 2 pdu_nil))))
 (pds_cons (pds_if (pdt_eq (by exact hr.units) (pd_add (pd_slot 0) (pd_slot 3)) pd_int)
 (pds_one (pds_ret pd_int))
 pds_nil)
 (pds_one (pds_ret (pd_ifx (pdt_le  (pd_slot 4) pd_int) pd_non (pd_fdiv (pd_sub (pd_add (pd_add (pd_slot 0) (pd_slot 3)) (pd_slot 4)) pd_int) (pd_slot 4)))))))))
abbrev s__law_bad : Stmt := top 27
abbrev N__law_bad : List Str := ["kind", "numbers"]
theorem sc__law_bad : FnScope N__law_bad ["kind", "numbers"] (defScope s__law_bad) := ⟨rfl, rfl, rfl, by decide +kernel, rfl, by decide +kernel, by decide +kernel⟩
theorem w__law_bad {P : Program} {w : World} {K : PySem.W.Frag} {mg : Str → Option Value} {base : Heap} {f : Addr} (c : Xf) (hc : ∀ x v, c.tr x v = PySem.W.exmOne K v (.ref (c.a x))) (B : Bn mg) (D_least_units_3 : DFun P w K mg base 4 "least_units" pm_least_units (sp_least_units c) []) (D_margin_of_2 : DFun P w K mg base 3 "margin_of" pm_margin_of (sp_margin_of c) []) (D_profit_4 : DFun P w K mg base 4 "profit" pm_profit (sp_profit c) []) (D_safe_part_4 : DFun P w K mg base 5 "safe_part" pm_safe_part (sp_safe_part c) []) (D_units_for_4 : DFun P w K mg base 4 "units_for" pm_units_for (sp_units_for c) []) (X_InvalidNumber : ExK K mg "InvalidNumber" (c.a "InvalidNumber")) (cdv : Value) (A : Around) (outer : List PySem.Env) (s : Shared) (H : Hp) (E : XK) (W : WX) (tk : Takes (cxOf (CX P w) P w K mg base N__law_bad "_law_bad" (defScope s__law_bad) f cdv A outer s H E) W) (hr : Room 5 (A.deeper (envOfC "_law_bad" (defScope s__law_bad) s.heap.objs.size f cdv))) :
    PDSs (cxOf (CX P w) P w K mg base N__law_bad "_law_bad" (defScope s__law_bad) f cdv A outer s H E) W (defBody s__law_bad) (m__law_bad c) :=
 (pds_cons (pds_tryK (fun v => hc "InvalidNumber" v) rfl rfl ⟨rfl, by decide, .inl X_InvalidNumber.gC⟩ tk (fun W pn xe tk po =>
 (pds_one (pds_if (pdt_eq (by exact hr.units) (pd_slot 0) pd_str)
 (pds_one (pds_expr (pd_callP tk D_margin_of_2 (by exact hr.mono (by omega)) (by rfl) (pdu_val (pd_ix (pd_slot 1) pd_int) (pdu_val (pd_ix (pd_slot 1) pd_int) pdu_nil)))))
 (pds_one (pds_if (pdt_eq (by exact hr.units) (pd_slot 0) pd_str)
 (pds_one (pds_expr (pd_callP tk D_least_units_3 (by exact hr.mono (by omega)) (by rfl) (pdu_val (pd_ix (pd_slot 1) pd_int) (pdu_val (pd_ix (pd_slot 1) pd_int) (pdu_val (pd_ix (pd_slot 1) pd_int) pdu_nil))))))
 (pds_one (pds_if (pdt_eq (by exact hr.units) (pd_slot 0) pd_str)
 (pds_one (pds_expr (pd_callP tk D_profit_4 (by exact hr.mono (by omega)) (by rfl) (pdu_val (pd_ix (pd_slot 1) pd_int) (pdu_val (pd_ix (pd_slot 1) pd_int) (pdu_val (pd_ix (pd_slot 1) pd_int) (pdu_val (pd_ix (pd_slot 1) pd_int) pdu_nil)))))))
 (pds_one (pds_if (pdt_eq (by exact hr.units) (pd_slot 0) pd_str)
 (pds_one (pds_expr (pd_callP tk D_units_for_4 (by exact hr.mono (by omega)) (by rfl) (pdu_val (pd_ix (pd_slot 1) pd_int) (pdu_val (pd_ix (pd_slot 1) pd_int) (pdu_val (pd_ix (pd_slot 1) pd_int) (pdu_val (pd_ix (pd_slot 1) pd_int) pdu_nil)))))))
 (pds_one (pds_expr (pd_callP tk D_safe_part_4 (by exact hr.mono (by omega)) (by rfl) (pdu_val (pd_ix (pd_slot 1) pd_int) (pdu_val (pd_ix (pd_slot 1) pd_int) (pdu_val (pd_ix (pd_slot 1) pd_int) (pdu_val (pd_ix (pd_slot 1) pd_int) pdu_nil)))))))))))))))) (fun _ _ _ _ _ _ _ =>
 (pds_one (pds_ret pd_bl))))
 (pds_one (pds_ret pd_bl)))
abbrev s__law_fr : Stmt := top 20
abbrev N__law_fr : List Str := ["over", "under", "one", "other"]
theorem sc__law_fr : FnScope N__law_fr ["over", "under"] (defScope s__law_fr) := ⟨rfl, rfl, rfl, by decide +kernel, rfl, by decide +kernel, by decide +kernel⟩
theorem w__law_fr {P : Program} {w : World} {K : PySem.W.Frag} {mg : Str → Option Value} {base : Heap} {f : Addr} (c : Xf) (hc : ∀ x v, c.tr x v = PySem.W.exmOne K v (.ref (c.a x))) (B : Bn mg) (cdv : Value) (A : Around) (outer : List PySem.Env) (s : Shared) (H : Hp) (E : XK) (W : WX) (tk : Takes (cxOf (CX P w) P w K mg base N__law_fr "_law_fr" (defScope s__law_fr) f cdv A outer s H E) W) (hr : Room 0 (A.deeper (envOfC "_law_fr" (defScope s__law_fr) s.heap.objs.size f cdv))) :
    PDSs (cxOf (CX P w) P w K mg base N__law_fr "_law_fr" (defScope s__law_fr) f cdv A outer s H E) W (defBody s__law_fr) (m__law_fr c) :=
 (pds_cons (pds_par (i := 2) (j := 3) rfl sc__law_fr.nd rfl rfl (by decide) rfl rfl (pda_cons (pd_callB cd_abs call_abs (by rfl) B.abs (by decide +kernel) (pda_cons (pd_slot 0) pda_nil)) (pda_cons (pd_slotF 1) pda_nil)))
 (pds_cons (pds_while (passes_of rfl) (pdt_gt  (pd_slot 3) pd_int)
 (pds_one (pds_par (i := 2) (j := 3) rfl sc__law_fr.nd rfl rfl (by decide) rfl rfl (pda_cons (pd_slotF 3) (pda_cons (pd_sub (pd_slot 2) (pd_mul (pd_slot 3) (pd_fdiv (pd_slot 2) (pd_slot 3)))) pda_nil)))))
 (pds_one (pds_ret (pd_tup (pda_cons (pd_fdiv (pd_slot 0) (pd_slot 2)) (pda_cons (pd_fdiv (pd_slot 1) (pd_slot 2)) pda_nil)))))))
abbrev s__law_next : Stmt := top 18
abbrev N__law_next : List Str := ["state", "limit", "cell", "value"]
theorem sc__law_next : FnScope N__law_next ["state", "limit"] (defScope s__law_next) := ⟨rfl, rfl, rfl, by decide +kernel, rfl, by decide +kernel, by decide +kernel⟩
theorem w__law_next {P : Program} {w : World} {K : PySem.W.Frag} {mg : Str → Option Value} {base : Heap} {f : Addr} (c : Xf) (hc : ∀ x v, c.tr x v = PySem.W.exmOne K v (.ref (c.a x))) (B : Bn mg) (cdv : Value) (A : Around) (outer : List PySem.Env) (s : Shared) (H : Hp) (E : XK) (W : WX) (tk : Takes (cxOf (CX P w) P w K mg base N__law_next "_law_next" (defScope s__law_next) f cdv A outer s H E) W) (hr : Room 0 (A.deeper (envOfC "_law_next" (defScope s__law_next) s.heap.objs.size f cdv))) :
    PDSs (cxOf (CX P w) P w K mg base N__law_next "_law_next" (defScope s__law_next) f cdv A outer s H E) W (defBody s__law_next) (m__law_next c) :=
 (pds_cons (pds_if (pdt_bool (pdw_and (pdt_eq (by exact hr.units) (pd_ix (pd_slot 0) pd_int) pd_int) (pdw_and1 (pdt_lt  (pd_ix (pd_slot 0) pd_int) (pd_callB cd_len call_rLen (by rfl) B.len (by decide +kernel) (pda_cons (pd_ix (pd_slot 0) pd_int) pda_nil))))))
 (pds_cons (pds_set (i := 2) sc__law_next.nd rfl (by first | exact Or.inl rfl | exact Or.inr rfl) (pd_ix (pd_ix (pd_slot 0) pd_int) (pd_ix (pd_slot 0) pd_int)))
 (pds_cons (pds_augS 0 rfl (by first | exact Or.inl rfl | exact Or.inr (Or.inl rfl) | exact Or.inr (Or.inr rfl)) rfl rfl pd_int pd_int ip_add)
 (pds_one (pds_if (pdt_ge  (pd_slot 2) (pd_pow pd_int pd_int))
 (pds_one (pds_asg (pd_slotF 2) (pdg_sub 0 rfl (by first | exact Or.inl rfl | exact Or.inr (Or.inl rfl) | exact Or.inr (Or.inr rfl)) rfl rfl pd_int)))
 (pds_one (pds_asg (pd_mod (pd_callT cd_int call_int1 (by rfl) B.int (by decide +kernel) (pda_cons (pd_add (pd_add (pd_mul (pd_ix (pd_slot 0) pd_int) pd_int) (pd_mod (pd_callT cd_int call_int1 (by rfl) B.int (by decide +kernel) (pda_cons (pd_slot 2) pda_nil)) pd_int)) pd_int) pda_nil)) pd_int) (pdg_sub 0 rfl (by first | exact Or.inl rfl | exact Or.inr (Or.inl rfl) | exact Or.inr (Or.inr rfl)) rfl rfl pd_int)))))))
 pds_nil)
 (pds_cons (pds_if (pdt_gt  (pd_ix (pd_slot 0) pd_int) pd_int)
 (pds_cons (pds_set (i := 3) sc__law_next.nd rfl (by first | exact Or.inl rfl | exact Or.inr rfl) (pd_mod (pd_callT cd_int call_int1 (by rfl) B.int (by decide +kernel) (pda_cons (pd_ix (pd_slot 0) pd_int) pda_nil)) (pd_slot 1)))
 (pds_cons (pds_asg (pd_fdiv (pd_ix (pd_slot 0) pd_int) (pd_slot 1)) (pdg_sub 0 rfl (by first | exact Or.inl rfl | exact Or.inr (Or.inl rfl) | exact Or.inr (Or.inr rfl)) rfl rfl pd_int))
 (pds_one (pds_ret (pd_move 3)))))
 pds_nil)
 (pds_cons (pds_asg (pd_mod (pd_callT cd_int call_int1 (by rfl) B.int (by decide +kernel) (pda_cons (pd_add (pd_mul (pd_ix (pd_slot 0) pd_int) pd_int) pd_int) pda_nil)) pd_int) (pdg_sub 0 rfl (by first | exact Or.inl rfl | exact Or.inr (Or.inl rfl) | exact Or.inr (Or.inr rfl)) rfl rfl pd_int))
 (pds_one (pds_ret (pd_mod (pd_callT cd_int call_int1 (by rfl) B.int (by decide +kernel) (pda_cons (pd_fdiv (pd_ix (pd_slot 0) pd_int) pd_int) pda_nil)) (pd_slot 1)))))))
abbrev s__law_same : Stmt := top 19
abbrev N__law_same : List Str := ["actual", "expected", "k"]
theorem sc__law_same : FnScope N__law_same ["actual", "expected"] (defScope s__law_same) := ⟨rfl, rfl, rfl, by decide +kernel, rfl, by decide +kernel, by decide +kernel⟩
theorem w__law_same {P : Program} {w : World} {K : PySem.W.Frag} {mg : Str → Option Value} {base : Heap} {f : Addr} {n : Nat} (c : Xf) (hc : ∀ x v, c.tr x v = PySem.W.exmOne K v (.ref (c.a x))) (B : Bn mg) (D__law_same_2 : DFun P w K mg base n "_law_same" pm__law_same (sp__law_same n) []) (cdv : Value) (A : Around) (outer : List PySem.Env) (s : Shared) (H : Hp) (E : XK) (W : WX) (tk : Takes (cxOf (CX P w) P w K mg base N__law_same "_law_same" (defScope s__law_same) f cdv A outer s H E) W) (hr : Room n (A.deeper (envOfC "_law_same" (defScope s__law_same) s.heap.objs.size f cdv))) :
    PDSs (cxOf (CX P w) P w K mg base N__law_same "_law_same" (defScope s__law_same) f cdv A outer s H E) W (defBody s__law_same) (m__law_same c n) :=
 (pds_cons (pds_if (pdt_is  (pd_slot 1) pd_non)
 (pds_one (pds_ret (pd_is  (pd_slot 0) pd_non)))
 pds_nil)
 (pds_cons (pds_if (pdt_val (pd_isi .bool (pd_slot 1) (by rfl) B.isi (by rfl) B.bool (by decide +kernel)))
 (pds_one (pds_ret (pd_and (pd_isi .bool (pd_slot 0) (by rfl) B.isi (by rfl) B.bool (by decide +kernel)) (pd_one (pd_eq (by exact hr.units) (pd_slot 0) (pd_slot 1))))))
 pds_nil)
 (pds_cons (pds_if (pdt_val (pd_isi .int (pd_slot 1) (by rfl) B.isi (by rfl) B.int (by decide +kernel)))
 (pds_one (pds_ret (pd_and (pd_isi .int (pd_slot 0) (by rfl) B.isi (by rfl) B.int (by decide +kernel)) (pd_and (pd_not (pd_isi .bool (pd_slot 0) (by rfl) B.isi (by rfl) B.bool (by decide +kernel))) (pd_one (pd_eq (by exact hr.units) (pd_slot 0) (pd_slot 1)))))))
 pds_nil)
 (pds_cons (pds_if (pdt_val (pd_isi .str (pd_slot 1) (by rfl) B.isi (by rfl) B.str (by decide +kernel)))
 (pds_one (pds_ret (pd_and (pd_isi .str (pd_slot 0) (by rfl) B.isi (by rfl) B.str (by decide +kernel)) (pd_one (pd_eq (by exact hr.units) (pd_slot 0) (pd_slot 1))))))
 pds_nil)
 (pds_cons (pds_if (pdt_bool (pdw_and (pdt_val (pd_isi .tuple (pd_slot 1) (by rfl) B.isi (by rfl) B.tuple (by decide +kernel))) (pdw_and1 (pdt_not (pdt_val (pd_isi .tuple (pd_slot 0) (by rfl) B.isi (by rfl) B.tuple (by decide +kernel)))))))
 (pds_one (pds_ret pd_bl))
 pds_nil)
 (pds_cons (pds_if (pdt_bool (pdw_and (pdt_val (pd_isi .list (pd_slot 1) (by rfl) B.isi (by rfl) B.list (by decide +kernel))) (pdw_and1 (pdt_not (pdt_val (pd_isi .list (pd_slot 0) (by rfl) B.isi (by rfl) B.list (by decide +kernel)))))))
 (pds_one (pds_ret pd_bl))
 pds_nil)
 (pds_cons (pds_if (pdt_val (pd_isi .dict (pd_slot 1) (by rfl) B.isi (by rfl) B.dict (by decide +kernel)))
 (pds_one pds_dead)
 pds_nil)
 (pds_cons (pds_if (pdt_ne (by exact hr.units) (pd_callB cd_len call_rLen (by rfl) B.len (by decide +kernel) (pda_cons (pd_slot 0) pda_nil)) (pd_callB cd_len call_rLen (by rfl) B.len (by decide +kernel) (pda_cons (pd_slot 1) pda_nil)))
 (pds_one (pds_ret pd_bl))
 pds_nil)
 (pds_cons (pds_for (passes_of rfl) rfl (pdi_range1 (by rfl) B.range (pda_cons (pd_callB cd_len call_rLen (by rfl) B.len (by decide +kernel) (pda_cons (pd_slot 1) pda_nil)) pda_nil)) (pdg_name (i := 2) sc__law_same.nd rfl (by first | exact Or.inl rfl | exact Or.inr rfl))
 (pds_one (pds_if (pdt_not (pdt_val (pd_callP tk D__law_same_2 (by exact hr.mono (by omega)) (by rfl) (pdu_val (pd_ix (pd_slot 0) (pd_slot 2)) (pdu_val (pd_ix (pd_slot 1) (pd_slot 2)) pdu_nil)))))
 (pds_one (pds_ret pd_bl))
 pds_nil)))
 (pds_one (pds_ret pd_bl)))))))))))
abbrev s_law : Stmt := top 28
abbrev N_law : List Str := ["script", "state", "turn", "wide", "fixed", "price", "moving", "units", "goal", "k", "each", "least", "some", "due", "bad", "numbers"]
theorem sc_law : FnScope N_law ["script"] (defScope s_law) := ⟨rfl, rfl, rfl, by decide +kernel, rfl, by decide +kernel, by decide +kernel⟩
theorem w_law {P : Program} {w : World} {K : PySem.W.Frag} {mg : Str → Option Value} {base : Heap} {f : Addr} (c : Xf) (hc : ∀ x v, c.tr x v = PySem.W.exmOne K v (.ref (c.a x))) (B : Bn mg) (D__law_bad_2 : DFun P w K mg base 6 "_law_bad" pm__law_bad (sp__law_bad c) []) (D__law_fr_2 : DFun P w K mg base 1 "_law_fr" pm__law_fr sp__law_fr []) (D__law_next_2 : DFun P w K mg base 1 "_law_next" pm__law_next sp__law_next []) (D__law_same_2 : DFun P w K mg base 6 "_law_same" pm__law_same (sp__law_same 6) []) (D_least_units_3 : DFun P w K mg base 4 "least_units" pm_least_units (sp_least_units c) []) (D_margin_of_2 : DFun P w K mg base 3 "margin_of" pm_margin_of (sp_margin_of c) []) (D_profit_4 : DFun P w K mg base 4 "profit" pm_profit (sp_profit c) []) (D_safe_part_4 : DFun P w K mg base 5 "safe_part" pm_safe_part (sp_safe_part c) []) (D_units_for_4 : DFun P w K mg base 4 "units_for" pm_units_for (sp_units_for c) []) (cdv : Value) (A : Around) (outer : List PySem.Env) (s : Shared) (H : Hp) (E : XK) (W : WX) (tk : Takes (cxOf (CX P w) P w K mg base N_law "law" (defScope s_law) f cdv A outer s H E) W) (hr : Room 7 (A.deeper (envOfC "law" (defScope s_law) s.heap.objs.size f cdv))) :
    PDSs (cxOf (CX P w) P w K mg base N_law "law" (defScope s_law) f cdv A outer s H E) W (defBody s_law) (m_law c) :=
 (pds_cons (pds_set (i := 1) sc_law.nd rfl (by first | exact Or.inl rfl | exact Or.inr rfl) (pd_lst (pda_cons (pd_callT cd_list call_list_of (by rfl) B.list (by decide +kernel) (pda_cons (pd_slot 0) pda_nil)) (pda_cons pd_int (pda_cons pd_int (pda_cons pd_int pda_nil))))))
 (pds_cons (pds_for (passes_of rfl) rfl (pdi_range1 (by rfl) B.range (pda_cons pd_int pda_nil)) (pdg_name (i := 2) sc_law.nd rfl (by first | exact Or.inl rfl | exact Or.inr rfl))
 (pds_cons (pds_set (i := 3) sc_law.nd rfl (by first | exact Or.inl rfl | exact Or.inr rfl) (pd_ix (pd_lst (pda_cons pd_int (pda_cons pd_int pda_nil))) (pd_call tk D__law_next_2 (by exact hr.mono (by omega)) (by rfl) (pdu_w (p := false) (pdu_sl 1 (pdu_val pd_int pdu_nil))))))
 (pds_cons (pds_asg (pd_lc (own := [("k", 9)]) rfl sc_law.nd (pdi_range1 (by rfl) B.range (pda_cons pd_int pda_nil)) (blkOk_by (N := N_law) (sc := defScope s_law) (by decide +kernel)) (fun _ _ _ _ _ => (pdg_name (i := 9) sc_law.nd rfl (by first | exact Or.inl rfl | exact Or.inr rfl))) (fun _ _ _ _ _ => pdts_nil) (fun _ _ _ _ _ => (pd_ix (pd_lst (pda_cons pd_int (pda_cons (pd_call takes0 D__law_next_2 (by exact hr.mono (by omega)) (by rfl) (pdu_w (p := false) (pdu_sl 1 (pdu_ln 3 pdu_nil)))) (pda_cons (pd_call takes0 D__law_next_2 (by exact hr.mono (by omega)) (by rfl) (pdu_w (p := false) (pdu_sl 1 (pdu_ln 3 pdu_nil)))) pda_nil)))) (pd_call takes0 D__law_next_2 (by exact hr.mono (by omega)) (by rfl) (pdu_w (p := false) (pdu_sl 1 (pdu_val pd_int pdu_nil))))))) (pdg_lst rfl (pdgs_cons (pdg_name (i := 4) sc_law.nd rfl (by first | exact Or.inl rfl | exact Or.inr rfl)) (pdgs_cons (pdg_name (i := 5) sc_law.nd rfl (by first | exact Or.inl rfl | exact Or.inr rfl)) (pdgs_cons (pdg_name (i := 6) sc_law.nd rfl (by first | exact Or.inl rfl | exact Or.inr rfl)) (pdgs_cons (pdg_name (i := 7) sc_law.nd rfl (by first | exact Or.inl rfl | exact Or.inr rfl)) (pdgs_cons (pdg_name (i := 8) sc_law.nd rfl (by first | exact Or.inl rfl | exact Or.inr rfl)) pdgs_nil)))))))
 (pds_cons (pds_set (i := 10) sc_law.nd rfl (by first | exact Or.inl rfl | exact Or.inr rfl) (pd_sub (pd_slot 5) (pd_slot 6)))
 (pds_cons (pds_if (pdt_bool (pdw_or (pdt_ne (by exact hr.units) (pd_callP tk D_margin_of_2 (by exact hr.mono (by omega)) (by rfl) (pdu_ln 5 (pdu_ln 6 pdu_nil))) (pd_slot 10)) (pdw_or1 (pdt_ne (by exact hr.units) (pd_callP tk D_profit_4 (by exact hr.mono (by omega)) (by rfl) (pdu_ln 4 (pdu_ln 5 (pdu_ln 6 (pdu_ln 7 pdu_nil))))) (pd_sub (pd_mul (pd_slot 10) (pd_slot 7)) (pd_slot 4))))))
 (pds_one (pds_ret pd_bl))
 pds_nil)
 (pds_cons (pds_par (i := 11) (j := 12) rfl sc_law.nd rfl rfl (by decide) rfl rfl (pda_cons (pd_callP tk D_least_units_3 (by exact hr.mono (by omega)) (by rfl) (pdu_ln 4 (pdu_ln 5 (pdu_ln 6 pdu_nil)))) (pda_cons (pd_callP tk D_units_for_4 (by exact hr.mono (by omega)) (by rfl) (pdu_ln 4 (pdu_ln 5 (pdu_ln 6 (pdu_ln 8 pdu_nil))))) pda_nil)))
 (pds_cons (pds_if (pdt_bool (pdw_or (pdt_ne (by exact hr.units) (pd_is  (pd_slot 11) pd_non) (pd_and (pd_le  (pd_slot 10) pd_int) (pd_one (pd_gt  (pd_slot 4) pd_int)))) (pdw_or1 (pdt_ne (by exact hr.units) (pd_is  (pd_slot 12) pd_non) (pd_and (pd_le  (pd_slot 10) pd_int) (pd_one (pd_gt  (pd_add (pd_slot 4) (pd_slot 8)) pd_int)))))))
 (pds_one (pds_ret pd_bl))
 pds_nil)
 (pds_cons (pds_if (pdt_isnot  (pd_slot 11) pd_non)
 (pds_one (pds_if (pdt_bool (pdw_or (pdt_lt  (pd_callP tk D_profit_4 (by exact hr.mono (by omega)) (by rfl) (pdu_ln 4 (pdu_ln 5 (pdu_ln 6 (pdu_ln 11 pdu_nil))))) pd_int) (pdw_or1 (pdt_bool (pdw_and (pdt_gt  (pd_slot 11) pd_int) (pdw_and1 (pdt_ge  (pd_callP tk D_profit_4 (by exact hr.mono (by omega)) (by rfl) (pdu_ln 4 (pdu_ln 5 (pdu_ln 6 (pdu_val (pd_sub (pd_slot 11) pd_int) pdu_nil))))) pd_int)))))))
 (pds_one (pds_ret pd_bl))
 pds_nil))
 pds_nil)
 (pds_cons (pds_if (pdt_isnot  (pd_slot 12) pd_non)
 (pds_one (pds_if (pdt_bool (pdw_or (pdt_lt  (pd_sub (pd_mul (pd_slot 12) (pd_slot 10)) (pd_slot 4)) (pd_slot 8)) (pdw_or1 (pdt_bool (pdw_and (pdt_gt  (pd_slot 12) pd_int) (pdw_and1 (pdt_ge  (pd_sub (pd_mul (pd_sub (pd_slot 12) pd_int) (pd_slot 10)) (pd_slot 4)) (pd_slot 8))))))))
 (pds_one (pds_ret pd_bl))
 pds_nil))
 pds_nil)
 (pds_cons (pds_set (i := 13) sc_law.nd rfl (by first | exact Or.inl rfl | exact Or.inr rfl) (pd_tup (pda_cons pd_int (pda_cons pd_int pda_nil))))
 (pds_cons (pds_if (pdt_bool (pdw_and (pdt_gt  (pd_slot 7) pd_int) (pdw_and (pdt_isnot  (pd_slot 11) pd_non) (pdw_and1 (pdt_ge  (pd_sub (pd_mul (pd_slot 10) (pd_slot 7)) (pd_slot 4)) pd_int)))))
 (pds_one (pds_set (i := 13) sc_law.nd rfl (by first | exact Or.inl rfl | exact Or.inr rfl) (pd_callP tk D__law_fr_2 (by exact hr.mono (by omega)) (by rfl) (pdu_val (pd_sub (pd_slot 7) (pd_slot 11)) (pdu_ln 7 pdu_nil)))))
 pds_nil)
 (pds_one (pds_if (pdt_not (pdt_val (pd_callP tk D__law_same_2 (by exact hr.mono (by omega)) (by rfl) (pdu_val (pd_callP tk D_safe_part_4 (by exact hr.mono (by omega)) (by rfl) (pdu_ln 4 (pdu_ln 5 (pdu_ln 6 (pdu_ln 7 pdu_nil))))) (pdu_ln 13 pdu_nil)))))
 (pds_one (pds_ret pd_bl))
 pds_nil)))))))))))))
 (pds_cons (pds_for (passes_of rfl) rfl (pdi_list (pd_lst (pda_cons (pd_neg pd_int) (pda_cons pd_int (pda_cons pd_bl (pda_cons pd_non pda_nil)))))) (pdg_name (i := 14) sc_law.nd rfl (by first | exact Or.inl rfl | exact Or.inr rfl))
 (pds_one (pds_for (passes_of rfl) rfl (pdi_range1 (by rfl) B.range (pda_cons pd_int pda_nil)) (pdg_name (i := 9) sc_law.nd rfl (by first | exact Or.inl rfl | exact Or.inr rfl))
 (pds_cons (pds_set (i := 15) sc_law.nd rfl (by first | exact Or.inl rfl | exact Or.inr rfl) (pd_lst (pda_cons pd_int (pda_cons pd_int (pda_cons pd_int (pda_cons pd_int pda_nil))))))
 (pds_cons (pds_asg (pd_slotF 14) (pdg_sub 15 rfl (by first | exact Or.inl rfl | exact Or.inr (Or.inl rfl) | exact Or.inr (Or.inr rfl)) rfl rfl (pd_slot 9)))
 (pds_cons (pds_if (pdt_bool (pdw_or (pdt_isnotB  (pd_callP tk D__law_bad_2 (by exact hr.mono (by omega)) (by rfl) (pdu_val pd_str (pdu_ln 15 pdu_nil))) pd_bl) (pdw_or (pdt_isnotB  (pd_callP tk D__law_bad_2 (by exact hr.mono (by omega)) (by rfl) (pdu_val pd_str (pdu_ln 15 pdu_nil))) pd_bl) (pdw_or1 (pdt_isnotB  (pd_callP tk D__law_bad_2 (by exact hr.mono (by omega)) (by rfl) (pdu_val pd_str (pdu_ln 15 pdu_nil))) pd_bl)))))
 (pds_one (pds_ret pd_bl))
 pds_nil)
 (pds_one (pds_if (pdt_bool (pdw_or (pdt_bool (pdw_and (pdt_lt  (pd_slot 9) pd_int) (pdw_and1 (pdt_isnotB  (pd_callP tk D__law_bad_2 (by exact hr.mono (by omega)) (by rfl) (pdu_val pd_str (pdu_ln 15 pdu_nil))) pd_bl)))) (pdw_or1 (pdt_bool (pdw_and (pdt_lt  (pd_slot 9) pd_int) (pdw_and1 (pdt_isnotB  (pd_callP tk D__law_bad_2 (by exact hr.mono (by omega)) (by rfl) (pdu_val pd_str (pdu_ln 15 pdu_nil))) pd_bl)))))))
 (pds_one (pds_ret pd_bl))
 pds_nil))))))))
 (pds_one (pds_ret (pd_and (pd_eq (by exact hr.units) (pd_callP tk D_least_units_3 (by exact hr.mono (by omega)) (by rfl) (pdu_val pd_int (pdu_val pd_int (pdu_val pd_int pdu_nil)))) pd_int) (pd_and (pd_eq (by exact hr.units) (pd_callP tk D_least_units_3 (by exact hr.mono (by omega)) (by rfl) (pdu_val pd_int (pdu_val pd_int (pdu_val pd_int pdu_nil)))) pd_int) (pd_one (pd_isB  (pd_callP tk D__law_bad_2 (by exact hr.mono (by omega)) (by rfl) (pdu_val pd_str (pdu_val (pd_lst (pda_cons pd_int (pda_cons pd_int (pda_cons pd_int (pda_cons pd_int pda_nil))))) pdu_nil))) pd_bl)))))))))
/-! ### the promises grow with what is wished -/
theorem okx_mono {c : Xf} {n : Nat} {Q Q' : DOut → Prop} (hQ : ∀ o, Q o → Q' o) {o : Option D} (h : okx c n Q o) : okx c n Q' o := by
  cases o <;> exact hQ _ h
theorem mono_is_number : SpM sp_is_number := by
  intro ds Q Q' hQ h; unfold sp_is_number at h ⊢; split at h
  · exact ⟨h.1, hQ _ h.2⟩
  · exact h.elim
theorem mono_checked_number (c : Xf) : SpM (sp_checked_number c) := by
  intro ds Q Q' hQ h; unfold sp_checked_number at h ⊢; split at h
  · rename_i d lo hi
    refine ⟨h.1, h.2.1, h.2.2.1, ?_⟩
    have q := h.2.2.2
    by_cases e : isNum d lo hi = true
    · rw [if_pos e] at q ⊢; exact hQ _ q
    · rw [if_neg e] at q ⊢; exact hQ _ q
  · exact h.elim
theorem mono_common : SpM sp_common := by
  intro ds Q Q' hQ h; unfold sp_common at h ⊢; split at h
  · exact ⟨h.1, h.2.1, hQ _ h.2.2⟩
  · exact h.elim
theorem mono_frac (c : Xf) : SpM (sp_frac c) := by
  intro ds Q Q' hQ h; unfold sp_frac at h ⊢; split at h
  · rename_i a b
    refine ⟨h.1, h.2.1, h.2.2.1, ?_⟩
    have q := h.2.2.2
    by_cases e : b = 0
    · rw [if_pos e] at q ⊢; exact hQ _ q
    · rw [if_neg e] at q ⊢; exact hQ _ q
  · exact h.elim
theorem mono__law_fr : SpM sp__law_fr := by
  intro ds Q Q' hQ h; unfold sp__law_fr at h ⊢; split at h
  · exact ⟨h.1, h.2.1, h.2.2.1, hQ _ h.2.2.2⟩
  · exact h.elim
theorem mono__law_next : SpM sp__law_next := by
  intro ds Q Q' hQ h; unfold sp__law_next at h ⊢; split at h
  · exact ⟨h.1, h.2.1, h.2.2.1, fun d' r a b e => hQ _ (h.2.2.2 d' r a b e)⟩
  · exact h.elim
theorem mono__law_same (n : Nat) : SpM (sp__law_same n) := by
  intro ds Q Q' hQ h; unfold sp__law_same at h ⊢; split at h
  · exact ⟨h.1, h.2.1, h.2.2.1, fun b hb => hQ _ (h.2.2.2 b hb)⟩
  · exact h.elim
theorem mono_margin_of (c : Xf) : SpM (sp_margin_of c) := by
  intro ds Q Q' hQ h; unfold sp_margin_of at h ⊢; split at h
  · exact ⟨h.1, h.2.1, okx_mono hQ h.2.2⟩
  · exact h.elim
theorem mono_least_units (c : Xf) : SpM (sp_least_units c) := by
  intro ds Q Q' hQ h; unfold sp_least_units at h ⊢; split at h
  · exact ⟨h.1, h.2.1, h.2.2.1, okx_mono hQ h.2.2.2⟩
  · exact h.elim
theorem mono_profit (c : Xf) : SpM (sp_profit c) := by
  intro ds Q Q' hQ h; unfold sp_profit at h ⊢; split at h
  · exact ⟨h.1, h.2.1, h.2.2.1, h.2.2.2.1, okx_mono hQ h.2.2.2.2⟩
  · exact h.elim
theorem mono_units_for (c : Xf) : SpM (sp_units_for c) := by
  intro ds Q Q' hQ h; unfold sp_units_for at h ⊢; split at h
  · exact ⟨h.1, h.2.1, h.2.2.1, h.2.2.2.1, okx_mono hQ h.2.2.2.2⟩
  · exact h.elim
theorem mono_safe_part (c : Xf) : SpM (sp_safe_part c) := by
  intro ds Q Q' hQ h; unfold sp_safe_part at h ⊢; split at h
  · exact ⟨h.1, h.2.1, h.2.2.1, h.2.2.2.1, okx_mono hQ h.2.2.2.2⟩
  · exact h.elim
theorem mono__law_bad (c : Xf) : SpM (sp__law_bad c) := by
  intro ds Q Q' hQ h; unfold sp__law_bad at h ⊢; split at h
  · exact ⟨h.1, h.2.1, h.2.2.1, h.2.2.2.1, h.2.2.2.2.1, hQ _ h.2.2.2.2.2⟩
  · exact h.elim
def dd_is_number : He.DefD := ⟨("is_number", none), "is_number", "is_number", defArgs s_is_number, defBody s_is_number, defScope s_is_number, [.int 0, .int 1000000], []⟩
def dd_checked_number : He.DefD := ⟨("checked_number", none), "checked_number", "checked_number", defArgs s_checked_number, defBody s_checked_number, defScope s_checked_number, [.int 0, .int 1000000], []⟩
def dd_margin_of : He.DefD := ⟨("margin_of", none), "margin_of", "margin_of", defArgs s_margin_of, defBody s_margin_of, defScope s_margin_of, [], []⟩
def dd_least_units : He.DefD := ⟨("least_units", none), "least_units", "least_units", defArgs s_least_units, defBody s_least_units, defScope s_least_units, [], []⟩
def dd_profit : He.DefD := ⟨("profit", none), "profit", "profit", defArgs s_profit, defBody s_profit, defScope s_profit, [], []⟩
def dd_common : He.DefD := ⟨("common", none), "common", "common", defArgs s_common, defBody s_common, defScope s_common, [], []⟩
def dd_frac : He.DefD := ⟨("frac", none), "frac", "frac", defArgs s_frac, defBody s_frac, defScope s_frac, [.int 1], []⟩
def dd_safe_part : He.DefD := ⟨("safe_part", none), "safe_part", "safe_part", defArgs s_safe_part, defBody s_safe_part, defScope s_safe_part, [], []⟩
def dd_units_for : He.DefD := ⟨("units_for", none), "units_for", "units_for", defArgs s_units_for, defBody s_units_for, defScope s_units_for, [], []⟩
def dd__law_fr : He.DefD := ⟨("_law_fr", none), "_law_fr", "_law_fr", defArgs s__law_fr, defBody s__law_fr, defScope s__law_fr, [], []⟩
def dd__law_next : He.DefD := ⟨("_law_next", none), "_law_next", "_law_next", defArgs s__law_next, defBody s__law_next, defScope s__law_next, [], []⟩
def dd__law_same : He.DefD := ⟨("_law_same", none), "_law_same", "_law_same", defArgs s__law_same, defBody s__law_same, defScope s__law_same, [], []⟩
def dd__law_bad : He.DefD := ⟨("_law_bad", none), "_law_bad", "_law_bad", defArgs s__law_bad, defBody s__law_bad, defScope s__law_bad, [], []⟩
def dd_law : He.DefD := ⟨("law", none), "law", "law", defArgs s_law, defBody s_law, defScope s_law, [], []⟩
def hfn : List He.DefD := [dd_is_number, dd_checked_number, dd_margin_of, dd_least_units, dd_profit, dd_common, dd_frac, dd_safe_part, dd_units_for, dd__law_fr, dd__law_next, dd__law_same, dd__law_bad, dd_law]
def hfa0 : List He.Fa := [.free "int", .free "len", .free "abs", .free "list", .free "isinstance", .free "range", .free "sorted", .free "bool", .free "str", .free "tuple", .free "dict", .free "sum", .free "min", .free "max", .free "zip", .free "enumerate", .free "all", .free "any", .free "set", .glo "is_number", .glo "checked_number", .glo "margin_of", .glo "least_units", .glo "profit", .glo "common", .glo "frac", .glo "safe_part", .glo "units_for", .glo "_law_fr", .glo "_law_next"]
def hfa1 : List He.Fa := [.glo "_law_same", .glo "_law_bad", .glo "law", .exc "InvalidNumber", .glo "InvalidNumber", .exm "InvalidNumber" "InvalidNumber" true, .int "GREATEST" 1000000, .glo "NOUGHT"]
def hfa : List He.Fa := hfa0 ++ hfa1
def hex (K : PySem.W.Frag) : Bool := He.tupB K "NOUGHT" [.int 0, .int 1]
abbrev hR : PySem.W.OpenRow := PySem.W.OpenLaw.row PySem.Challenge.rw_samegate_k61_units_that_bear_costs
abbrev hk : PySem.W.Hook := hookY 4 hfa hfn hex
def hob (s : PySem.W.SharedT) : AlY := obsYG 4 hfa hfn hex (HandSHeadRun.getT s)
theorem hob_eq (s : PySem.W.SharedT) : hob s = hk.obs s.abs := obsYG_eq (HandSHeadRun.getT_eq s)
def hloose : List PySem.Str := ["GateError", "InvalidNumber", "is_number", "checked_number", "common", "frac", "margin_of", "least_units", "profit", "units_for", "safe_part", "_law_next", "_law_same", "_law_fr", "_law_plus", "_law_times", "_law_by", "_law_sum", "_law_less", "_law_neg", "_law_bad", "GREATEST", "NOUGHT"]
theorem hrun (w : World) : HandSHeadRun.RunEq hR (PySem.W.view hR.prog [28]) hk hob 3000 hloose w := by
  intro os
  kernel_rfl
theorem same0 {ds : List D} {Q : DOut → Prop} (h : sp__law_same 0 ds Q) : False := by
  unfold sp__law_same at h; split at h
  · exact absurd h.2.2.1 (Nat.not_lt_zero _)
  · exact h
theorem facts {P : Program} {w : World} {K : PySem.W.Frag} {h : Heap} {mg : Str → Option Value} {f : Addr} (X : K.In h) (G : h.Ns mainGlobals mg) (hf0 : mg ("law" : Str) = some (.ref f)) (c : SaysY hfa hfn hex K) :
    ∃ fd : FuncData, (∀ (s : Shared) (v : Value), BindsTo s fd ⟨[v], []⟩ [("script", v)]) ∧ ∀ base : Heap, K.In base → base.Ns mainGlobals mg → FnOk P w K mg base (CX P w) 8 f fd ["script"] (lift K [.l] (spLaw 63)) := by
  have B : Bn mg := ⟨He.free_ok X G (c.d.fact 0 (f := .free "int") rfl), He.free_ok X G (c.d.fact 1 (f := .free "len") rfl), He.free_ok X G (c.d.fact 2 (f := .free "abs") rfl), He.free_ok X G (c.d.fact 3 (f := .free "list") rfl), He.free_ok X G (c.d.fact 4 (f := .free "isinstance") rfl), He.free_ok X G (c.d.fact 5 (f := .free "range") rfl), He.free_ok X G (c.d.fact 6 (f := .free "sorted") rfl), He.free_ok X G (c.d.fact 7 (f := .free "bool") rfl), He.free_ok X G (c.d.fact 8 (f := .free "str") rfl), He.free_ok X G (c.d.fact 9 (f := .free "tuple") rfl), He.free_ok X G (c.d.fact 10 (f := .free "dict") rfl), He.free_ok X G (c.d.fact 11 (f := .free "sum") rfl), He.free_ok X G (c.d.fact 12 (f := .free "min") rfl), He.free_ok X G (c.d.fact 13 (f := .free "max") rfl), He.free_ok X G (c.d.fact 14 (f := .free "zip") rfl), He.free_ok X G (c.d.fact 15 (f := .free "enumerate") rfl), He.free_ok X G (c.d.fact 16 (f := .free "all") rfl), He.free_ok X G (c.d.fact 17 (f := .free "any") rfl), He.free_ok X G (c.d.fact 18 (f := .free "set") rfl)⟩
  obtain ⟨fd_is_number, F_is_number⟩ := c.d.def_ 0 (d := dd_is_number) rfl
  have g_is_number := He.glo_ok X G (c.d.fact 19 (f := .glo "is_number") rfl)
  obtain ⟨fd_checked_number, F_checked_number⟩ := c.d.def_ 1 (d := dd_checked_number) rfl
  have g_checked_number := He.glo_ok X G (c.d.fact 20 (f := .glo "checked_number") rfl)
  obtain ⟨fd_margin_of, F_margin_of⟩ := c.d.def_ 2 (d := dd_margin_of) rfl
  have g_margin_of := He.glo_ok X G (c.d.fact 21 (f := .glo "margin_of") rfl)
  obtain ⟨fd_least_units, F_least_units⟩ := c.d.def_ 3 (d := dd_least_units) rfl
  have g_least_units := He.glo_ok X G (c.d.fact 22 (f := .glo "least_units") rfl)
  obtain ⟨fd_profit, F_profit⟩ := c.d.def_ 4 (d := dd_profit) rfl
  have g_profit := He.glo_ok X G (c.d.fact 23 (f := .glo "profit") rfl)
  obtain ⟨fd_common, F_common⟩ := c.d.def_ 5 (d := dd_common) rfl
  have g_common := He.glo_ok X G (c.d.fact 24 (f := .glo "common") rfl)
  obtain ⟨fd_frac, F_frac⟩ := c.d.def_ 6 (d := dd_frac) rfl
  have g_frac := He.glo_ok X G (c.d.fact 25 (f := .glo "frac") rfl)
  obtain ⟨fd_safe_part, F_safe_part⟩ := c.d.def_ 7 (d := dd_safe_part) rfl
  have g_safe_part := He.glo_ok X G (c.d.fact 26 (f := .glo "safe_part") rfl)
  obtain ⟨fd_units_for, F_units_for⟩ := c.d.def_ 8 (d := dd_units_for) rfl
  have g_units_for := He.glo_ok X G (c.d.fact 27 (f := .glo "units_for") rfl)
  obtain ⟨fd__law_fr, F__law_fr⟩ := c.d.def_ 9 (d := dd__law_fr) rfl
  have g__law_fr := He.glo_ok X G (c.d.fact 28 (f := .glo "_law_fr") rfl)
  obtain ⟨fd__law_next, F__law_next⟩ := c.d.def_ 10 (d := dd__law_next) rfl
  have g__law_next := He.glo_ok X G (c.d.fact 29 (f := .glo "_law_next") rfl)
  obtain ⟨fd__law_same, F__law_same⟩ := c.d.def_ 11 (d := dd__law_same) rfl
  have g__law_same := He.glo_ok X G (c.d.fact 30 (f := .glo "_law_same") rfl)
  obtain ⟨fd__law_bad, F__law_bad⟩ := c.d.def_ 12 (d := dd__law_bad) rfl
  have g__law_bad := He.glo_ok X G (c.d.fact 31 (f := .glo "_law_bad") rfl)
  obtain ⟨fd_law, F_law⟩ := c.d.def_ 13 (d := dd_law) rfl
  have g_law := He.glo_ok X G (c.d.fact 32 (f := .glo "law") rfl)
  have e0 := hf0.symm.trans g_law
  cases e0
  obtain ⟨cx, hcx⟩ : ∃ cx : Xf, cx = ⟨fun x => He.ga K x, fun x v => PySem.W.exmOne K v (.ref (He.ga K x))⟩ := ⟨_, rfl⟩
  have hc : ∀ x v, cx.tr x v = PySem.W.exmOne K v (.ref (cx.a x)) := by subst hcx; intro _ _; rfl
  have ha : ∀ x, cx.a x = He.ga K x := by subst hcx; intro _; rfl
  have X_InvalidNumber : ExK K mg "InvalidNumber" (cx.a "InvalidNumber") := by
    rw [ha]
    obtain ⟨e1, e2, e3, e4⟩ := He.exc_ok (c.d.fact 33 (f := .exc "InvalidNumber") rfl)
    exact ⟨⟨_, _, _, _, PySem.F.excBase_ValueError, e1⟩, He.glo_ok X G (c.d.fact 34 (f := .glo "InvalidNumber") rfl), e2, e3, e4⟩
  have c_GREATEST : GlK K mg "GREATEST" (.int 1000000) := by
    obtain ⟨t, e⟩ := He.int_ok X G (c.d.fact 36 (f := .int "GREATEST" 1000000) rfl)
    exact ⟨_, .int 1000000, e, ⟨t, rfl⟩, fun _ => .int _⟩
  have c_NOUGHT : GlK K mg "NOUGHT" (.tup [.int 0, .int 1]) := ⟨_, .ref (He.ga K "NOUGHT"), He.glo_ok X G (c.d.fact 37 (f := .glo "NOUGHT") rfl), rfl, fun H => .tup (He.tupB_ok c.ex H) (.cons (.int _) (.cons (.int _) .nil))⟩
  have tr1 : Tr1 cx := by unfold Tr1; rw [hc, ha]; exact He.exm_ok (c.d.fact 35 (f := .exm "InvalidNumber" "InvalidNumber" true) rfl)
  refine ⟨fd_law, fun s v => FunD.bindsA (ps := ["script"]) F_law (fun _ _ _ _ _ _ us hl => match us, hl with | [_], _ => rfl) s [v] rfl, fun base _ _ => ?_⟩
  have ok_is_number : FnOk P w K mg base (CX P w) 1 (He.ga K "is_number") fd_is_number ["value", "least", "most"] (lift K pm_is_number sp_is_number) := fnDD F_is_number sc_is_number rfl (w_is_number cx hc B) (d_is_number cx)
  have D_is_number_3 : DFun P w K mg base 1 "is_number" pm_is_number sp_is_number [] := DFun.of1 F_is_number g_is_number (mono_is_number) ok_is_number 3 2 (by intro z; cases z) rfl (fun Z => .nil) (fun T kV doc pm an cdv ct us its hl h2 => match us, hl, its, h2 with | [_, _, _], _, [_, _], _ => ⟨_, rfl, rfl⟩)
  have ok_checked_number : FnOk P w K mg base (CX P w) 2 (He.ga K "checked_number") fd_checked_number ["value", "least", "most"] (lift K pm_checked_number (sp_checked_number cx)) := fnDD F_checked_number sc_checked_number rfl (w_checked_number cx hc B (D_is_number_3 := D_is_number_3) (X_InvalidNumber := X_InvalidNumber)) (d_checked_number cx)
  have D_checked_number_1 : DFun P w K mg base 2 "checked_number" pm_checked_number (sp_checked_number cx) [.int 0, .int 1000000] := DFun.of1 F_checked_number g_checked_number (mono_checked_number cx) ok_checked_number 1 0 (by intro z; cases z) rfl (fun Z => (.cons (.int _) (.cons (.int _) .nil))) (fun T kV doc pm an cdv ct us its hl h2 => match us, hl, its, h2 with | [_], _, [_, _], _ => ⟨_, rfl, rfl⟩)
  have ok_margin_of : FnOk P w K mg base (CX P w) 3 (He.ga K "margin_of") fd_margin_of ["price", "moving"] (lift K pm_margin_of (sp_margin_of cx)) := fnDD F_margin_of sc_margin_of rfl (w_margin_of cx hc B (D_checked_number_1 := D_checked_number_1)) (d_margin_of cx)
  have D_margin_of_2 : DFun P w K mg base 3 "margin_of" pm_margin_of (sp_margin_of cx) [] := DFun.ofN F_margin_of g_margin_of (mono_margin_of cx) ok_margin_of (fun _ _ _ _ _ _ us hl => match us, hl with | [_, _], _ => rfl)
  have ok_least_units : FnOk P w K mg base (CX P w) 4 (He.ga K "least_units") fd_least_units ["fixed", "price", "moving"] (lift K pm_least_units (sp_least_units cx)) := fnDD F_least_units sc_least_units rfl (w_least_units cx hc B (D_checked_number_1 := D_checked_number_1) (D_margin_of_2 := D_margin_of_2)) (d_least_units cx)
  have D_least_units_3 : DFun P w K mg base 4 "least_units" pm_least_units (sp_least_units cx) [] := DFun.ofN F_least_units g_least_units (mono_least_units cx) ok_least_units (fun _ _ _ _ _ _ us hl => match us, hl with | [_, _, _], _ => rfl)
  have ok_profit : FnOk P w K mg base (CX P w) 4 (He.ga K "profit") fd_profit ["fixed", "price", "moving", "units"] (lift K pm_profit (sp_profit cx)) := fnDD F_profit sc_profit rfl (w_profit cx hc B (D_checked_number_1 := D_checked_number_1) (D_margin_of_2 := D_margin_of_2)) (d_profit cx)
  have D_profit_4 : DFun P w K mg base 4 "profit" pm_profit (sp_profit cx) [] := DFun.ofN F_profit g_profit (mono_profit cx) ok_profit (fun _ _ _ _ _ _ us hl => match us, hl with | [_, _, _, _], _ => rfl)
  have ok_common : FnOk P w K mg base (CX P w) 1 (He.ga K "common") fd_common ["one", "other"] (lift K pm_common sp_common) := fnDD F_common sc_common rfl (w_common cx hc B) (d_common cx)
  have D_common_2 : DFun P w K mg base 1 "common" pm_common sp_common [] := DFun.ofN F_common g_common (mono_common) ok_common (fun _ _ _ _ _ _ us hl => match us, hl with | [_, _], _ => rfl)
  have ok_frac : FnOk P w K mg base (CX P w) 2 (He.ga K "frac") fd_frac ["over", "under"] (lift K pm_frac (sp_frac cx)) := fnDD F_frac sc_frac rfl (w_frac cx hc B (D_common_2 := D_common_2) (X_InvalidNumber := X_InvalidNumber)) (d_frac cx)
  have D_frac_2 : DFun P w K mg base 2 "frac" pm_frac (sp_frac cx) [] := DFun.of1 F_frac g_frac (mono_frac cx) ok_frac 2 1 (by intro z; cases z) rfl (fun Z => .nil) (fun T kV doc pm an cdv ct us its hl h2 => match us, hl, its, h2 with | [_, _], _, [_], _ => ⟨_, rfl, rfl⟩)
  have ok_safe_part : FnOk P w K mg base (CX P w) 5 (He.ga K "safe_part") fd_safe_part ["fixed", "price", "moving", "units"] (lift K pm_safe_part (sp_safe_part cx)) := fnDD F_safe_part sc_safe_part rfl (w_safe_part cx hc B (D_checked_number_1 := D_checked_number_1) (D_frac_2 := D_frac_2) (D_least_units_3 := D_least_units_3) (D_profit_4 := D_profit_4) (g_NOUGHT := c_NOUGHT)) (d_safe_part cx)
  have D_safe_part_4 : DFun P w K mg base 5 "safe_part" pm_safe_part (sp_safe_part cx) [] := DFun.ofN F_safe_part g_safe_part (mono_safe_part cx) ok_safe_part (fun _ _ _ _ _ _ us hl => match us, hl with | [_, _, _, _], _ => rfl)
  have ok_units_for : FnOk P w K mg base (CX P w) 4 (He.ga K "units_for") fd_units_for ["fixed", "price", "moving", "goal"] (lift K pm_units_for (sp_units_for cx)) := fnDD F_units_for sc_units_for rfl (w_units_for cx hc B (D_checked_number_1 := D_checked_number_1) (D_margin_of_2 := D_margin_of_2)) (d_units_for cx)
  have D_units_for_4 : DFun P w K mg base 4 "units_for" pm_units_for (sp_units_for cx) [] := DFun.ofN F_units_for g_units_for (mono_units_for cx) ok_units_for (fun _ _ _ _ _ _ us hl => match us, hl with | [_, _, _, _], _ => rfl)
  have ok__law_fr : FnOk P w K mg base (CX P w) 1 (He.ga K "_law_fr") fd__law_fr ["over", "under"] (lift K pm__law_fr sp__law_fr) := fnDD F__law_fr sc__law_fr rfl (w__law_fr cx hc B) (d__law_fr cx)
  have D__law_fr_2 : DFun P w K mg base 1 "_law_fr" pm__law_fr sp__law_fr [] := DFun.ofN F__law_fr g__law_fr (mono__law_fr) ok__law_fr (fun _ _ _ _ _ _ us hl => match us, hl with | [_, _], _ => rfl)
  have ok__law_next : FnOk P w K mg base (CX P w) 1 (He.ga K "_law_next") fd__law_next ["state", "limit"] (lift K pm__law_next sp__law_next) := fnDD F__law_next sc__law_next rfl (w__law_next cx hc B) (d__law_next cx)
  have D__law_next_2 : DFun P w K mg base 1 "_law_next" pm__law_next sp__law_next [] := DFun.ofN F__law_next g__law_next (mono__law_next) ok__law_next (fun _ _ _ _ _ _ us hl => match us, hl with | [_, _], _ => rfl)
  have R__law_same : ∀ n : Nat, DFun P w K mg base n "_law_same" pm__law_same (sp__law_same n) [] := fun n => by
    induction n with
    | zero => exact DFun.ofN (ps := ["actual", "expected"]) F__law_same g__law_same (mono__law_same 0) ⟨fun vs H Q E ⟨_, _, _, l, _⟩ => l, fun A outer s H args us vs Q E hr e0 hb r ⟨_, _, _, _, _, _, z⟩ => (same0 z).elim⟩ (fun _ _ _ _ _ _ us hl => match us, hl with | [_, _], _ => rfl)
    | succ n ih => exact DFun.ofN (ps := ["actual", "expected"]) F__law_same g__law_same (mono__law_same (n + 1)) (fnDD F__law_same sc__law_same rfl (w__law_same cx hc B (D__law_same_2 := ih)) (d__law_same cx n)) (fun _ _ _ _ _ _ us hl => match us, hl with | [_, _], _ => rfl)
  have D__law_same_2 := R__law_same 6
  have ok__law_bad : FnOk P w K mg base (CX P w) 6 (He.ga K "_law_bad") fd__law_bad ["kind", "numbers"] (lift K pm__law_bad (sp__law_bad cx)) := fnDD F__law_bad sc__law_bad rfl (w__law_bad cx hc B (D_least_units_3 := D_least_units_3) (D_margin_of_2 := D_margin_of_2) (D_profit_4 := D_profit_4) (D_safe_part_4 := D_safe_part_4) (D_units_for_4 := D_units_for_4) (X_InvalidNumber := X_InvalidNumber)) (d__law_bad cx tr1)
  have D__law_bad_2 : DFun P w K mg base 6 "_law_bad" pm__law_bad (sp__law_bad cx) [] := DFun.ofN F__law_bad g__law_bad (mono__law_bad cx) ok__law_bad (fun _ _ _ _ _ _ us hl => match us, hl with | [_, _], _ => rfl)
  exact fnDD F_law sc_law rfl (w_law cx hc B (D__law_bad_2 := D__law_bad_2) (D__law_fr_2 := D__law_fr_2) (D__law_next_2 := D__law_next_2) (D__law_same_2 := D__law_same_2) (D_least_units_3 := D_least_units_3) (D_margin_of_2 := D_margin_of_2) (D_profit_4 := D_profit_4) (D_safe_part_4 := D_safe_part_4) (D_units_for_4 := D_units_for_4)) (d_law cx)
end DL
open PySem PySem.W PySem.Calls PyProof.Rows
theorem PySem.Challenge.cw_samegate_k61_units_that_bear_costs_holds : PySem.Challenge.rw_samegate_k61_units_that_bear_costs.Holds := by
  w_on; o_law
  refine HandSHeadRun.head_any (r := OpenLaw.row PySem.Challenge.rw_samegate_k61_units_that_bear_costs) (q := view (OpenLaw.row PySem.Challenge.rw_samegate_k61_units_that_bear_costs).prog [28]) (H := DL.hk) (ob := DL.hob) (M := 3000) (loose := DL.hloose) (d := HandSHeadRun.topDef (OpenLaw.row PySem.Challenge.rw_samegate_k61_units_that_bear_costs).prog 28) (kwd := []) DL.hob_eq
    (by kernel_rfl) (fun s => by kernel_rfl) DL.hrun (by kernel_rfl) (by kernel_rfl) (by kernel_rfl) (by rfl) (by first | assumption | decide +kernel) (by decide +kernel) ⟨rfl, rfl, rfl, rfl, rfl, by decide +kernel⟩ ?hw ?hc
  case hw => w_witness2
  case hc =>
    refine DL.walk_D (l := PySem.Challenge.rw_samegate_k61_units_that_bear_costs) (n := 63) (k := 8) rfl (by decide) (by kernel_rfl) ⟨rfl, by decide, by decide⟩ ?F
    intro w mg fa h Y G hmg0
    obtain ⟨K, KX, c⟩ := Y
    have hmg : mg ("law" : PySem.Str) = some (.ref fa) := by
      have e : (HandSHeadRun.topDef (OpenLaw.row PySem.Challenge.rw_samegate_k61_units_that_bear_costs).prog 28).name = ("law" : PySem.Str) := by kernel_rfl
      rw [← e]
      exact hmg0
    obtain ⟨fd, hb, hF⟩ := DL.facts (P := (PySem.Challenge.rw_samegate_k61_units_that_bear_costs).prog) (w := w) KX G hmg c
    exact ⟨K, fd, KX, hb, hF⟩
namespace DL


end DL
