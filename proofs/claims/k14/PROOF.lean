import PyProof.Rows.All
import Wide.All
import OpenK.AllK
import Wide.FinOn
import HandS.ForMost
import HandS.EndBits
import HandS.TupAny
import HandS.Style
import HandS.Deep
import HandS.IsInst
import HandS.TupLe
import HandS.WordsExc
import KE.KTupSum
import HandS.Rev
import HandS.ExcIs
import HandS.Text
import HandS.Dict
import KE.KDictDisplayH
import KE.LtSeq
import HandS.TryOnly
import HandS.SortRule
import HandS.Codes
import PySem.Challenge.RW_runpaint_k14_read
set_option Elab.async false
set_option linter.all false
set_option maxRecDepth 100000
set_option maxHeartbeats 4000000
namespace RP
open PySem L2

/-! ### results -/
inductive Rs (α : Type) where
  | ok (a : α)
  | er (c : Str)
  | no
def Rs.bind {α β : Type} : Rs α → (α → Rs β) → Rs β
  | .ok a, f => f a
  | .er c, _ => .er c
  | .no, _ => .no
instance : Monad Rs where
  pure := Rs.ok
  bind := Rs.bind
def Rs.of {α : Type} : Option α → Rs α
  | some a => .ok a
  | none => .no
@[simp] theorem Rs.bind_ok {α β : Type} (a : α) (f : α → Rs β) : (Rs.ok a >>= f) = f a := rfl
@[simp] theorem Rs.bind_er {α β : Type} (c : Str) (f : α → Rs β) : (Rs.er c >>= f) = .er c := rfl
@[simp] theorem Rs.bind_no {α β : Type} (f : α → Rs β) : ((Rs.no : Rs α) >>= f) = .no := rfl
@[simp] theorem Rs.bind_ok' {α β : Type} (a : α) (f : α → Rs β) : (Rs.ok a).bind f = f a := rfl
@[simp] theorem Rs.bind_er' {α β : Type} (c : Str) (f : α → Rs β) : (Rs.er c).bind f = .er c := rfl
@[simp] theorem Rs.bind_no' {α β : Type} (f : α → Rs β) : (Rs.no : Rs α).bind f = .no := rfl
@[simp] theorem Rs.pure_ok {α : Type} (a : α) : (pure a : Rs α) = .ok a := rfl
@[simp] theorem Rs.of_some {α : Type} (a : α) : Rs.of (some a) = .ok a := rfl
@[simp] theorem Rs.of_none {α : Type} : Rs.of (none : Option α) = .no := rfl

/-! ### plain data in a heap -/
mutual
def Rp (H : Hp) : PyData → V → Prop
  | .none, v => v = .non
  | .bool b, v => v = .bl b
  | .int i, v => v = .int i
  | .str s, v => v = .str s
  | .list ds, v => ∃ a vs, v = .ref a ∧ H a = some (.lst vs) ∧ Rps H ds vs
  | .tuple ds, v => ∃ a vs, v = .ref a ∧ H a = some (.tup vs) ∧ Rps H ds vs
  | .dict _, _ => False
def Rps (H : Hp) : List PyData → List V → Prop
  | [], vs => vs = []
  | d :: ds, vs => ∃ v vs', vs = v :: vs' ∧ Rp H d v ∧ Rps H ds vs'
end
-- no list within
mutual
def lf : PyData → Bool
  | .none => true
  | .bool _ => true
  | .int _ => true
  | .str _ => true
  | .list _ => false
  | .tuple ds => lfs ds
  | .dict _ => false
def lfs : List PyData → Bool
  | [] => true
  | d :: ds => lf d && lfs ds
end

def Exn (H H' : Hp) : Prop := ∀ a o, H a = some o → H' a = some o
theorem Exn.refl (H : Hp) : Exn H H := fun _ _ h => h
theorem Exn.trans {H H1 H2 : Hp} (a : Exn H H1) (b : Exn H1 H2) : Exn H H2 := fun x o h => b x o (a x o h)
theorem Exn.new {H : Hp} {p : Addr} {o : HO} (h : H p = none) : Exn H (upd H p o) := fun a u e => by
  rw [upd_ne (ne_of_none e h)]
  exact e
theorem Exn.back {H H' : Hp} {p : Addr} (e : Exn H H') (h : H' p = none) : H p = none := by
  cases h1 : H p with
  | none => rfl
  | some o => rw [e p o h1] at h; cases h

mutual
theorem Rp.mono {H H' : Hp} (e : Exn H H') : ∀ (d : PyData) (v : V), Rp H d v → Rp H' d v
  | .none, _, h => h
  | .bool _, _, h => h
  | .int _, _, h => h
  | .str _, _, h => h
  | .list ds, _, ⟨a, vs, hv, ha, hs⟩ => ⟨a, vs, hv, e _ _ ha, Rps.mono e ds vs hs⟩
  | .tuple ds, _, ⟨a, vs, hv, ha, hs⟩ => ⟨a, vs, hv, e _ _ ha, Rps.mono e ds vs hs⟩
  | .dict _, _, h => h
theorem Rps.mono {H H' : Hp} (e : Exn H H') : ∀ (ds : List PyData) (vs : List V), Rps H ds vs → Rps H' ds vs
  | [], _, h => h
  | d :: ds, _, ⟨v, vs', hv, h1, h2⟩ => ⟨v, vs', hv, Rp.mono e d v h1, Rps.mono e ds vs' h2⟩
end
mutual
-- list-free data leans on the tuples alone
theorem Rp.tups {H H' : Hp} (e : ∀ a vs, H a = some (.tup vs) → H' a = some (.tup vs)) : ∀ (d : PyData) (v : V), lf d = true → Rp H d v → Rp H' d v
  | .none, _, _, h => h
  | .bool _, _, _, h => h
  | .int _, _, _, h => h
  | .str _, _, _, h => h
  | .list _, _, l, _ => by cases l
  | .tuple ds, _, l, ⟨a, vs, hv, ha, hs⟩ => ⟨a, vs, hv, e _ _ ha, Rps.tups e ds vs l hs⟩
  | .dict _, _, l, _ => by cases l
theorem Rps.tups {H H' : Hp} (e : ∀ a vs, H a = some (.tup vs) → H' a = some (.tup vs)) : ∀ (ds : List PyData) (vs : List V), lfs ds = true → Rps H ds vs → Rps H' ds vs
  | [], _, _, h => h
  | d :: ds, _, l, ⟨v, vs', hv, h1, h2⟩ => by
    have l' : (lf d && lfs ds) = true := l
    rw [Bool.and_eq_true] at l'
    exact ⟨v, vs', hv, Rp.tups e d v l'.1 h1, Rps.tups e ds vs' l'.2 h2⟩
end
theorem Rps.length {H : Hp} : ∀ {ds : List PyData} {vs : List V}, Rps H ds vs → vs.length = ds.length
  | [], vs, h => by
    have e : vs = [] := h
    subst e; rfl
  | d :: ds, vs, ⟨v, vs', hv, _, h2⟩ => by rw [hv, List.length_cons, List.length_cons, Rps.length h2]
theorem Rps.get {H : Hp} : ∀ {ds : List PyData} {vs : List V} {i : Nat} {d : PyData}, Rps H ds vs → ds[i]? = some d → ∃ v, vs[i]? = some v ∧ Rp H d v
  | [], _, _, _, _, e => by simp at e
  | d :: ds, vs, 0, x, ⟨v, vs', hv, h1, _⟩, e => by
    have e' : d = x := by simpa using e
    subst e'; subst hv; exact ⟨v, rfl, h1⟩
  | d :: ds, vs, i + 1, x, ⟨v, vs', hv, _, h2⟩, e => by
    subst hv
    obtain ⟨u, e1, e2⟩ := Rps.get (i := i) (d := x) h2 (by simpa using e)
    exact ⟨u, by simpa using e1, e2⟩

-- to the kit's Dp
mutual
theorem Rp.dp {K : PySem.W.Frag} {H : Hp} : ∀ (d : PyData) (v : V), Rp H d v → Dp K H v d
  | .none, _, h => by rw [show _ = V.non from h]; exact .non
  | .bool b, _, h => by rw [show _ = V.bl b from h]; exact .bl b
  | .int i, _, h => by rw [show _ = V.int i from h]; exact .int i
  | .str s, _, h => by rw [show _ = V.str s from h]; exact .str s
  | .list ds, _, ⟨a, vs, hv, ha, hs⟩ => by rw [hv]; exact .lst (.inl (.inl ha)) (Rps.dp ds vs hs)
  | .tuple ds, _, ⟨a, vs, hv, ha, hs⟩ => by rw [hv]; exact .tup (.inl (.inl ha)) (Rps.dp ds vs hs)
  | .dict _, _, h => h.elim
theorem Rps.dp {K : PySem.W.Frag} {H : Hp} : ∀ (ds : List PyData) (vs : List V), Rps H ds vs → DpAll K H vs ds
  | [], _, h => by rw [show _ = [] from h]; exact .nil
  | d :: ds, _, ⟨v, vs', hv, h1, h2⟩ => by rw [hv]; exact .cons (Rp.dp d v h1) (Rps.dp ds vs' h2)
end

/-! ### trees -/
inductive Tr where
  -- frozen: new since the entry, or without lists
  | d (x : PyData)
  -- frozen: of the entry
  | e (x : PyData)
  -- passing: good till the next change
  | v (x : PyData)
  -- the script
  | s (ns : List Int)
  -- a dict of tuples
  | dt (kvs : List (List Key × V))
  -- an owned list
  | ol (xs : List Tr)
  -- a tuple, with trees within
  | tp (xs : List Tr)

mutual
def data : Tr → Option PyData
  | .d x => some x
  | .e x => some x
  | .v x => some x
  | .s _ => none
  | .dt _ => none
  | .ol ts => (datas ts).map PyData.list
  | .tp ts => (datas ts).map PyData.tuple
def datas : List Tr → Option (List PyData)
  | [] => some []
  | t :: ts => (data t).bind fun d => (datas ts).map fun ds => d :: ds
end
-- all new (no part of the entry's, none passing)
mutual
def clean : Tr → Bool
  | .d _ => true
  | .e _ => false
  | .v _ => false
  | .s _ => false
  | .dt _ => false
  | .ol ts => cleans ts
  | .tp ts => cleans ts
def cleans : List Tr → Bool
  | [] => true
  | t :: ts => clean t && cleans ts
end
-- nothing passing
mutual
def noV : Tr → Bool
  | .d _ => true
  | .e _ => true
  | .v _ => false
  | .s _ => true
  | .dt _ => true
  | .ol ts => noVs ts
  | .tp ts => noVs ts
def noVs : List Tr → Bool
  | [] => true
  | t :: ts => noV t && noVs ts
end
def mkV (x : PyData) : Tr := if lf x then .d x else .v x
def mkE (x : PyData) : Tr := if lf x then .d x else .e x

mutual
def RT (K : PySem.W.Frag) (G H F : Hp) : Tr → V → List Addr → Prop
  | .d x, v, fp => fp = [] ∧ Rp G x v
  | .e x, v, fp => fp = [] ∧ Rp F x v
  | .v x, v, fp => fp = [] ∧ Rp H x v
  | .s ns, v, fp => fp = [] ∧ ∃ a, v = .ref a ∧ SqL K F a (ns.map V.int)
  | .dt kvs, v, fp => ∃ p, v = .ref p ∧ fp = [p] ∧ H p = some (.dT kvs)
  | .ol ts, v, fp => ∃ p vs fps, v = .ref p ∧ fp = p :: fps ∧ H p = some (.lst vs) ∧ RTs K G H F ts vs fps
  | .tp ts, v, fp => ∃ p vs, v = .ref p ∧ G p = some (.tup vs) ∧ RTs K G H F ts vs fp
def RTs (K : PySem.W.Frag) (G H F : Hp) : List Tr → List V → List Addr → Prop
  | [], vs, fp => vs = [] ∧ fp = []
  | t :: ts, vs, fp => ∃ v vs' f f', vs = v :: vs' ∧ fp = f ++ f' ∧ RT K G H F t v f ∧ RTs K G H F ts vs' f'
end

section
variable {K : PySem.W.Frag} {G G' H H' F F' : Hp}
theorem sql_mono {a : Addr} {xs : List V} (e : Exn H H') (h : SqL K H a xs) : SqL K H' a xs := by
  rcases h with (h | ⟨o, h⟩) | h
  · exact .inl (.inl (e _ _ h))
  · exact .inl (.inr ⟨o, e _ _ h⟩)
  · exact .inr h
-- all heaps grow
mutual
theorem RT.mono (g : Exn G G') (h : Exn H H') (f : Exn F F') : ∀ (t : Tr) (v : V) (fp : List Addr), RT K G H F t v fp → RT K G' H' F' t v fp
  | .d x, _, _, ⟨e1, e2⟩ => ⟨e1, Rp.mono g _ _ e2⟩
  | .e x, _, _, ⟨e1, e2⟩ => ⟨e1, Rp.mono f _ _ e2⟩
  | .v x, _, _, ⟨e1, e2⟩ => ⟨e1, Rp.mono h _ _ e2⟩
  | .s ns, _, _, ⟨e1, a, e2, e3⟩ => ⟨e1, a, e2, sql_mono f e3⟩
  | .dt kvs, _, _, ⟨p, e1, e2, e3⟩ => ⟨p, e1, e2, h _ _ e3⟩
  | .ol ts, _, _, ⟨p, vs, fps, e1, e2, e3, e4⟩ => ⟨p, vs, fps, e1, e2, h _ _ e3, RTs.mono g h f ts vs fps e4⟩
  | .tp ts, _, fp, ⟨p, vs, e1, e2, e3⟩ => ⟨p, vs, e1, g _ _ e2, RTs.mono g h f ts vs fp e3⟩
theorem RTs.mono (g : Exn G G') (h : Exn H H') (f : Exn F F') : ∀ (ts : List Tr) (vs : List V) (fp : List Addr), RTs K G H F ts vs fp → RTs K G' H' F' ts vs fp
  | [], _, _, e => e
  | t :: ts, _, _, ⟨v, vs', f1, f2, e1, e2, e3, e4⟩ => ⟨v, vs', f1, f2, e1, e2, RT.mono g h f t v f1 e3, RTs.mono g h f ts vs' f2 e4⟩
end
-- the heap changes elsewhere
mutual
theorem RT.frame (g : Exn G G') : ∀ (t : Tr) (v : V) (fp : List Addr), (∀ a ∈ fp, H' a = H a) → noV t = true → RT K G H F t v fp → RT K G' H' F t v fp
  | .d x, _, _, _, _, ⟨e1, e2⟩ => ⟨e1, Rp.mono g _ _ e2⟩
  | .e x, _, _, _, _, h => h
  | .v x, _, _, _, n, _ => by cases n
  | .s ns, _, _, _, _, h => h
  | .dt kvs, _, _, k, _, ⟨p, e1, e2, e3⟩ => ⟨p, e1, e2, by rw [k p (by rw [e2]; exact List.mem_cons_self)]; exact e3⟩
  | .ol ts, _, _, k, n, ⟨p, vs, fps, e1, e2, e3, e4⟩ => ⟨p, vs, fps, e1, e2, by rw [k p (by rw [e2]; exact List.mem_cons_self)]; exact e3,
      RTs.frame g ts vs fps (fun a ha => k a (by rw [e2]; exact List.mem_cons_of_mem _ ha)) n e4⟩
  | .tp ts, _, fp, k, n, ⟨p, vs, e1, e2, e3⟩ => ⟨p, vs, e1, g _ _ e2, RTs.frame g ts vs fp k n e3⟩
theorem RTs.frame (g : Exn G G') : ∀ (ts : List Tr) (vs : List V) (fp : List Addr), (∀ a ∈ fp, H' a = H a) → noVs ts = true → RTs K G H F ts vs fp → RTs K G' H' F ts vs fp
  | [], _, _, _, _, e => e
  | t :: ts, _, _, k, n, ⟨v, vs', f1, f2, e1, e2, e3, e4⟩ => by
    have n' : (noV t && noVs ts) = true := n
    rw [Bool.and_eq_true] at n'
    exact ⟨v, vs', f1, f2, e1, e2, RT.frame g t v f1 (fun a ha => k a (by rw [e2]; exact List.mem_append_left _ ha)) n'.1 e3,
      RTs.frame g ts vs' f2 (fun a ha => k a (by rw [e2]; exact List.mem_append_right _ ha)) n'.2 e4⟩
end
-- clean trees do not lean on the entry
mutual
theorem RT.clean_mono (g : Exn G G') (h : Exn H H') : ∀ (t : Tr) (v : V) (fp : List Addr), clean t = true → RT K G H F t v fp → RT K G' H' F' t v fp
  | .d x, _, _, _, ⟨e1, e2⟩ => ⟨e1, Rp.mono g _ _ e2⟩
  | .e x, _, _, n, _ => by cases n
  | .v x, _, _, n, _ => by cases n
  | .s ns, _, _, n, _ => by cases n
  | .dt kvs, _, _, n, _ => by cases n
  | .ol ts, _, _, n, ⟨p, vs, fps, e1, e2, e3, e4⟩ => ⟨p, vs, fps, e1, e2, h _ _ e3, RTs.clean_mono g h ts vs fps n e4⟩
  | .tp ts, _, fp, n, ⟨p, vs, e1, e2, e3⟩ => ⟨p, vs, e1, g _ _ e2, RTs.clean_mono g h ts vs fp n e3⟩
theorem RTs.clean_mono (g : Exn G G') (h : Exn H H') : ∀ (ts : List Tr) (vs : List V) (fp : List Addr), cleans ts = true → RTs K G H F ts vs fp → RTs K G' H' F' ts vs fp
  | [], _, _, _, e => e
  | t :: ts, _, _, n, ⟨v, vs', f1, f2, e1, e2, e3, e4⟩ => by
    have n' : (clean t && cleans ts) = true := n
    rw [Bool.and_eq_true] at n'
    exact ⟨v, vs', f1, f2, e1, e2, RT.clean_mono g h t v f1 n'.1 e3, RTs.clean_mono g h ts vs' f2 n'.2 e4⟩
end
mutual
theorem clean_noV : ∀ (t : Tr), clean t = true → noV t = true
  | .d _, _ => rfl
  | .e _, h => by cases h
  | .v _, h => by cases h
  | .s _, h => by cases h
  | .dt _, h => by cases h
  | .ol ts, h => cleans_noVs ts h
  | .tp ts, h => cleans_noVs ts h
theorem cleans_noVs : ∀ (ts : List Tr), cleans ts = true → noVs ts = true
  | [], _ => rfl
  | t :: ts, h => by
    have n' : (clean t && cleans ts) = true := h
    rw [Bool.and_eq_true] at n'
    show (noV t && noVs ts) = true
    rw [clean_noV t n'.1, cleans_noVs ts n'.2]; rfl
end
-- what a tree erases to lies in the whole heap
mutual
theorem RT.data (gh : Exn G H) (fh : Exn F H) : ∀ (t : Tr) (v : V) (fp : List Addr) (x : PyData), RT K G H F t v fp → data t = some x → Rp H x v
  | .d y, _, _, x, ⟨_, e2⟩, q => by cases q; exact Rp.mono gh _ _ e2
  | .e y, _, _, x, ⟨_, e2⟩, q => by cases q; exact Rp.mono fh _ _ e2
  | .v y, _, _, x, ⟨_, e2⟩, q => by cases q; exact e2
  | .s _, _, _, _, _, q => by cases q
  | .dt _, _, _, _, _, q => by cases q
  | .ol ts, _, _, x, ⟨p, vs, fps, e1, e2, e3, e4⟩, q => by
    have q' : (datas ts).map PyData.list = some x := q
    obtain ⟨ds, hd, rfl⟩ := Option.map_eq_some_iff.mp q'
    exact ⟨p, vs, e1, e3, RTs.datas gh fh ts vs fps ds e4 hd⟩
  | .tp ts, _, fp, x, ⟨p, vs, e1, e2, e3⟩, q => by
    have q' : (datas ts).map PyData.tuple = some x := q
    obtain ⟨ds, hd, rfl⟩ := Option.map_eq_some_iff.mp q'
    exact ⟨p, vs, e1, gh _ _ e2, RTs.datas gh fh ts vs fp ds e3 hd⟩
theorem RTs.datas (gh : Exn G H) (fh : Exn F H) : ∀ (ts : List Tr) (vs : List V) (fp : List Addr) (ds : List PyData), RTs K G H F ts vs fp → datas ts = some ds → Rps H ds vs
  | [], _, _, _, ⟨e1, _⟩, q => by cases q; exact e1
  | t :: ts, _, _, ds, ⟨v, vs', f1, f2, e1, e2, e3, e4⟩, q => by
    have q' : ((RP.data t).bind fun d => (RP.datas ts).map fun ds => d :: ds) = some ds := q
    obtain ⟨x, hx, q2⟩ := Option.bind_eq_some_iff.mp q'
    obtain ⟨xs, hxs, rfl⟩ := Option.map_eq_some_iff.mp q2
    exact ⟨v, vs', e1, RT.data gh fh t v f1 x e3 hx, RTs.datas gh fh ts vs' f2 xs e4 hxs⟩
end
-- the footprint: lists and dicts of the heap
def IsOwn (o : HO) : Prop := (∃ xs, o = .lst xs) ∨ ∃ kvs, o = .dT kvs
mutual
theorem RT.own : ∀ (t : Tr) (v : V) (fp : List Addr), RT K G H F t v fp → ∀ a ∈ fp, ∃ o, H a = some o ∧ IsOwn o
  | .d _, _, _, ⟨e1, _⟩, a, ha => by rw [e1] at ha; cases ha
  | .e _, _, _, ⟨e1, _⟩, a, ha => by rw [e1] at ha; cases ha
  | .v _, _, _, ⟨e1, _⟩, a, ha => by rw [e1] at ha; cases ha
  | .s _, _, _, ⟨e1, _⟩, a, ha => by rw [e1] at ha; cases ha
  | .dt kvs, _, _, ⟨p, e1, e2, e3⟩, a, ha => by
    rw [e2] at ha
    rw [List.mem_singleton.mp ha]
    exact ⟨_, e3, .inr ⟨_, rfl⟩⟩
  | .ol ts, _, _, ⟨p, vs, fps, e1, e2, e3, e4⟩, a, ha => by
    rw [e2] at ha
    rcases List.mem_cons.mp ha with rfl | ha
    · exact ⟨_, e3, .inl ⟨_, rfl⟩⟩
    · exact RTs.own ts vs fps e4 a ha
  | .tp ts, _, fp, ⟨p, vs, e1, e2, e3⟩, a, ha => RTs.own ts vs fp e3 a ha
theorem RTs.own : ∀ (ts : List Tr) (vs : List V) (fp : List Addr), RTs K G H F ts vs fp → ∀ a ∈ fp, ∃ o, H a = some o ∧ IsOwn o
  | [], _, _, ⟨_, e2⟩, a, ha => by rw [e2] at ha; cases ha
  | t :: ts, _, _, ⟨v, vs', f1, f2, e1, e2, e3, e4⟩, a, ha => by
    rw [e2] at ha
    rcases List.mem_append.mp ha with h | h
    · exact RT.own t v f1 e3 a h
    · exact RTs.own ts vs' f2 e4 a h
end
theorem RTs.length : ∀ {ts : List Tr} {vs : List V} {fp : List Addr}, RTs K G H F ts vs fp → vs.length = ts.length
  | [], _, _, ⟨e1, _⟩ => by rw [e1]; rfl
  | t :: ts, _, _, ⟨v, vs', f1, f2, e1, e2, e3, e4⟩ => by rw [e1, List.length_cons, List.length_cons, RTs.length e4]
theorem RTs.get : ∀ {ts : List Tr} {vs : List V} {fp : List Addr} {i : Nat} {t : Tr}, RTs K G H F ts vs fp → ts[i]? = some t → ∃ v f, vs[i]? = some v ∧ f.Sublist fp ∧ RT K G H F t v f
  | [], _, _, _, _, _, e => by simp at e
  | t :: ts, _, _, 0, x, ⟨v, vs', f1, f2, e1, e2, e3, e4⟩, e => by
    have e' : t = x := by simpa using e
    subst e'; subst e1; subst e2
    exact ⟨v, f1, rfl, List.sublist_append_left _ _, e3⟩
  | t :: ts, _, _, i + 1, x, ⟨v, vs', f1, f2, e1, e2, e3, e4⟩, e => by
    subst e1; subst e2
    obtain ⟨u, f, q1, q2, q3⟩ := RTs.get (i := i) (t := x) e4 (by simpa using e)
    exact ⟨u, f, by simpa using q1, q2.trans (List.sublist_append_right _ _), q3⟩
theorem RTs.append : ∀ {ts ts' : List Tr} {vs vs' : List V} {fp fp' : List Addr}, RTs K G H F ts vs fp → RTs K G H F ts' vs' fp' → RTs K G H F (ts ++ ts') (vs ++ vs') (fp ++ fp')
  | [], _, _, _, _, _, ⟨e1, e2⟩, h => by rw [e1, e2]; exact h
  | t :: ts, _, _, _, _, _, ⟨v, vs1, f1, f2, e1, e2, e3, e4⟩, h => by
    subst e1; subst e2
    exact ⟨v, vs1 ++ _, f1, f2 ++ _, rfl, List.append_assoc _ _ _, e3, RTs.append e4 h⟩
theorem RTs.one {t : Tr} {v : V} {f : List Addr} (h : RT K G H F t v f) : RTs K G H F [t] [v] f := ⟨v, [], f, [], rfl, (List.append_nil _).symm, h, rfl, rfl⟩
-- trees of data
theorem RTs.ofD : ∀ {ds : List PyData} {vs : List V}, Rps G ds vs → RTs K G H F (ds.map Tr.d) vs []
  | [], _, h => ⟨h, rfl⟩
  | d :: ds, _, ⟨v, vs', e1, h1, h2⟩ => ⟨v, vs', [], [], e1, rfl, ⟨rfl, h1⟩, RTs.ofD h2⟩
theorem RT.mkE {x : PyData} {v : V} (h : Rp F x v) (t : ∀ a vs, F a = some (.tup vs) → G a = some (.tup vs)) : RT K G H F (mkE x) v [] := by
  unfold RP.mkE
  by_cases l : lf x = true
  · rw [if_pos l]; exact ⟨rfl, Rp.tups t x v l h⟩
  · rw [if_neg l]; exact ⟨rfl, h⟩
theorem RT.mkV {x : PyData} {v : V} (h : Rp H x v) (t : ∀ a vs, H a = some (.tup vs) → G a = some (.tup vs)) : RT K G H F (mkV x) v [] := by
  unfold RP.mkV
  by_cases l : lf x = true
  · rw [if_pos l]; exact ⟨rfl, Rp.tups t x v l h⟩
  · rw [if_neg l]; exact ⟨rfl, h⟩
theorem RTs.mkE : ∀ {ds : List PyData} {vs : List V}, Rps F ds vs → (∀ a vs, F a = some (.tup vs) → G a = some (.tup vs)) → RTs K G H F (ds.map RP.mkE) vs []
  | [], _, h, _ => ⟨h, rfl⟩
  | d :: ds, _, ⟨v, vs', e1, h1, h2⟩, t => ⟨v, vs', [], [], e1, rfl, RT.mkE h1 t, RTs.mkE h2 t⟩
theorem RTs.mkV : ∀ {ds : List PyData} {vs : List V}, Rps H ds vs → (∀ a vs, H a = some (.tup vs) → G a = some (.tup vs)) → RTs K G H F (ds.map RP.mkV) vs []
  | [], _, h, _ => ⟨h, rfl⟩
  | d :: ds, _, ⟨v, vs', e1, h1, h2⟩, t => ⟨v, vs', [], [], e1, rfl, RT.mkV h1 t, RTs.mkV h2 t⟩
end

/-! ### the frozen heap -/
open Classical in
noncomputable def gh (F : Hp) (O : Addr → Prop) (H : Hp) : Hp := fun a =>
  if O a then none else match H a with
    | some (.tup xs) => some (.tup xs)
    | some o => if (F a).isSome then none else some o
    | none => none
section
variable {F H H' : Hp} {O O' : Addr → Prop}
theorem gh_some {a : Addr} {o : HO} (h : gh F O H a = some o) : ¬ O a ∧ H a = some o ∧ ((∃ xs, o = .tup xs) ∨ F a = none) := by
  unfold gh at h
  split at h
  · cases h
  · rename_i hO
    refine ⟨hO, ?_⟩
    split at h
    · rename_i xs e
      cases h
      exact ⟨e, .inl ⟨_, rfl⟩⟩
    · rename_i o' e
      split at h
      · cases h
      · rename_i hf
        cases h
        refine ⟨e, .inr ?_⟩
        cases q : F a with
        | none => rfl
        | some u => rw [q] at hf; exact absurd rfl hf
    · cases h
theorem gh_tup {a : Addr} {xs : List V} (h : H a = some (.tup xs)) (n : ¬ O a) : gh F O H a = some (.tup xs) := by
  unfold gh
  rw [if_neg n, h]
theorem gh_new {a : Addr} {o : HO} (h : H a = some o) (n : ¬ O a) (f : F a = none) : gh F O H a = some o := by
  unfold gh
  rw [if_neg n, h, f]
  cases o <;> rfl
theorem gh_sub : Exn (gh F O H) H := fun _ _ h => (gh_some h).2.1
theorem gh_mono (k : ∀ a o, ¬ O a → H a = some o → H' a = some o) (n : ∀ a, O' a → O a ∨ H a = none) : Exn (gh F O H) (gh F O' H') := fun a o h => by
  obtain ⟨h1, h2, h3⟩ := gh_some h
  have n' : ¬ O' a := fun z => by
    rcases n a z with q | q
    · exact h1 q
    · rw [h2] at q; cases q
  rcases h3 with ⟨xs, rfl⟩ | h3
  · exact gh_tup (k a _ h1 h2) n'
  · exact gh_new (k a _ h1 h2) n' h3
end

/-! ### the state of a body -/
abbrev En := List (Option Tr)
-- O: all that is owned, by a slot (its part: fp) or by what is in the making
structure Stt (K : PySem.W.Frag) (F : Hp) (en : En) (σ : L2.St) (H : Hp) (fp : Nat → List Addr) (O : Addr → Prop) : Prop where
  len : σ.length = en.length
  sl : ∀ (i : Nat) (t : Tr), en[i]? = some (some t) → ∃ v, σ[i]? = some (some v) ∧ RT K (gh F O H) H F t v (fp i)
  nd : ∀ i, (fp i).Nodup
  dj : ∀ i j a, a ∈ fp i → a ∈ fp j → i = j
  fo : ∀ i a, a ∈ fp i → O a
  own : ∀ a, O a → ∃ o, H a = some o ∧ IsOwn o
  nw : ∀ a, O a → F a = none
  ex : Exn F H
-- a state of a statement: nothing passing is kept
structure StS (K : PySem.W.Frag) (F : Hp) (en : En) (σ : L2.St) (H : Hp) (fp : Nat → List Addr) (O : Addr → Prop) : Prop extends Stt K F en σ H fp O where
  nv : ∀ (i : Nat) (t : Tr), en[i]? = some (some t) → noV t = true
section
variable {K : PySem.W.Frag} {F H H' : Hp} {en : En} {σ : L2.St} {fp : Nat → List Addr} {O : Addr → Prop}
theorem Stt.tup (S : Stt K F en σ H fp O) {a : Addr} {xs : List V} (h : H a = some (.tup xs)) : gh F O H a = some (.tup xs) := gh_tup h fun z => by
  obtain ⟨o, e, q⟩ := S.own a z
  rw [h] at e; cases e
  rcases q with ⟨_, q⟩ | ⟨_, q⟩ <;> cases q
theorem Stt.fresh (S : Stt K F en σ H fp O) {a : Addr} (h : H a = none) : ¬ O a := fun z => by
  obtain ⟨o, e, _⟩ := S.own a z
  rw [h] at e; cases e
-- the heap has grown, new things are owned
theorem Stt.add (S : Stt K F en σ H fp O) (e : Exn H H') (fq : List Addr) (hn : ∀ a ∈ fq, H a = none) (ho : ∀ a ∈ fq, ∃ o, H' a = some o ∧ IsOwn o) : Stt K F en σ H' fp (fun a => O a ∨ a ∈ fq) := by
  have g : Exn (gh F O H) (gh F (fun a => O a ∨ a ∈ fq) H') := gh_mono (fun a o _ h => e a o h) fun a h => h.imp id (hn a)
  refine ⟨S.len, fun i t h => ?_, S.nd, S.dj, fun i a h => .inl (S.fo i a h), fun a h => ?_, fun a h => ?_, S.ex.trans e⟩
  · obtain ⟨v, h1, h2⟩ := S.sl i t h
    exact ⟨v, h1, RT.mono g e (Exn.refl F) t v _ h2⟩
  · rcases h with h | h
    · obtain ⟨o, h1, h2⟩ := S.own a h
      exact ⟨o, e a o h1, h2⟩
    · exact ho a h
  · rcases h with h | h
    · exact S.nw a h
    · exact Exn.back S.ex (hn a h)
theorem Stt.grow (S : Stt K F en σ H fp O) (e : Exn H H') : Stt K F en σ H' fp O := by
  have g : Exn (gh F O H) (gh F O H') := gh_mono (fun a o _ h => e a o h) fun a h => .inl h
  refine ⟨S.len, fun i t h => ?_, S.nd, S.dj, S.fo, fun a h => ?_, S.nw, S.ex.trans e⟩
  · obtain ⟨v, h1, h2⟩ := S.sl i t h
    exact ⟨v, h1, RT.mono g e (Exn.refl F) t v _ h2⟩
  · obtain ⟨o, h1, h2⟩ := S.own a h
    exact ⟨o, e a o h1, h2⟩
end

-- an expression's end: the heap has grown, the value is t's, its own part is new
def Pe (K : PySem.W.Frag) (F : Hp) (O : Addr → Prop) (H : Hp) (t : Tr) (v : V) (H' : Hp) : Prop :=
  Exn H H' ∧ ∃ fq : List Addr, fq.Nodup ∧ (∀ a ∈ fq, H a = none) ∧ RT K (gh F (fun a => O a ∨ a ∈ fq) H') H' F t v fq
def PeA (K : PySem.W.Frag) (F : Hp) (O : Addr → Prop) (H : Hp) (ts : List Tr) (vs : List V) (H' : Hp) : Prop :=
  Exn H H' ∧ ∃ fq : List Addr, fq.Nodup ∧ (∀ a ∈ fq, H a = none) ∧ RTs K (gh F (fun a => O a ∨ a ∈ fq) H') H' F ts vs fq
abbrev WW := Str → L2.St → Hp → Prop
def Fin (K : PySem.W.Frag) (W : WW) (F : Hp) (O : Addr → Prop) (σ : L2.St) (H : Hp) (r : Rs Tr) (Q : VK) : Prop :=
  match r with
  | .ok t => ∀ v H', Pe K F O H t v H' → Q v H'
  | .er c => ∀ H', Exn H H' → W c σ H'
  | .no => False
def FinA (K : PySem.W.Frag) (W : WW) (F : Hp) (O : Addr → Prop) (σ : L2.St) (H : Hp) (r : Rs (List Tr)) (Q : List V → Hp → Prop) : Prop :=
  match r with
  | .ok ts => ∀ vs H', PeA K F O H ts vs H' → Q vs H'
  | .er c => ∀ H', Exn H H' → W c σ H'
  | .no => False
def tM (K : PySem.W.Frag) (W : WW) (f : En → Rs Tr) : TE := fun σ H Q => ∃ F en fp O, Stt K F en σ H fp O ∧ Fin K W F O σ H (f en) Q
def tA (K : PySem.W.Frag) (W : WW) (f : En → Rs (List Tr)) : TA := fun σ H Q => ∃ F en fp O, Stt K F en σ H fp O ∧ FinA K W F O σ H (f en) Q
-- soundness of a denotation
abbrev Snd (X : Cx) (W : WW) (e : Expr) (f : En → Rs Tr) : Prop := PE X e (tM X.K W f)
abbrev SndA (X : Cx) (W : WW) (es : List Expr) (f : En → Rs (List Tr)) : Prop := PA X es (tA X.K W f)
theorem pe_wk {X : Cx} {e : Expr} {t t' : TE} (h : PE X e t) (w : ∀ σ H Q, t' σ H Q → t σ H Q) : PE X e t' := ⟨fun pins s σ H Q I q => h.run pins s σ H Q I (w σ H Q q)⟩
theorem pa_wk {X : Cx} {e : List Expr} {t t' : TA} (h : PA X e t) (w : ∀ σ H Q, t' σ H Q → t σ H Q) : PA X e t' := ⟨fun pos pins s σ H Q I q => h.run pos pins s σ H Q I (w σ H Q q)⟩
theorem ps_wk {X : Cx} {e : Stmt} {t t' : TS} (h : PS X e t) (w : ∀ D σ H, t' D σ H → t D σ H) : PS X e t' := ⟨fun pins s σ H D I q => h.run pins s σ H D I (w D σ H q)⟩
theorem pss_wk {X : Cx} {e : List Stmt} {t t' : TS} (h : PSs X e t) (w : ∀ D σ H, t' D σ H → t D σ H) : PSs X e t' := ⟨fun pins s σ H D I q => h.run pins s σ H D I (w D σ H q)⟩
theorem pt_wk {X : Cx} {e : Expr} {t t' : TT} (h : PT X e t) (w : ∀ σ H Q, t' σ H Q → t σ H Q) : PT X e t' := ⟨fun pins s σ H Q I q => h.run pins s σ H Q I (w σ H Q q)⟩
section
variable {K : PySem.W.Frag} {W : WW} {F H H' H1 : Hp} {en : En} {σ : L2.St} {fp : Nat → List Addr} {O : Addr → Prop} {t : Tr} {v : V}
-- a part, then the rest
theorem Fin.seq {r : Rs Tr} {g : Tr → Rs Tr} {Q R : VK} (S : Stt K F en σ H fp O) (h : Fin K W F O σ H (r.bind g) Q)
    (k : ∀ t v H1 (fq : List Addr), r = .ok t → Exn H H1 → fq.Nodup → (∀ a ∈ fq, H a = none) → RT K (gh F (fun a => O a ∨ a ∈ fq) H1) H1 F t v fq → Stt K F en σ H1 fp (fun a => O a ∨ a ∈ fq) → Fin K W F O σ H (g t) Q → R v H1) : Fin K W F O σ H r R := by
  cases r with
  | ok t =>
    intro v H1 ⟨e, fq, nd, fr, rt⟩
    exact k t v H1 fq rfl e nd fr rt (S.add e fq fr (RT.own t v fq rt)) h
  | er c => exact h
  | no => exact h
theorem Fin.seqA {r : Rs (List Tr)} {g : List Tr → Rs Tr} {Q : VK} {R : List V → Hp → Prop} (S : Stt K F en σ H fp O) (h : Fin K W F O σ H (r.bind g) Q)
    (k : ∀ t v H1 (fq : List Addr), r = .ok t → Exn H H1 → fq.Nodup → (∀ a ∈ fq, H a = none) → RTs K (gh F (fun a => O a ∨ a ∈ fq) H1) H1 F t v fq → Stt K F en σ H1 fp (fun a => O a ∨ a ∈ fq) → Fin K W F O σ H (g t) Q → R v H1) : FinA K W F O σ H r R := by
  cases r with
  | ok t =>
    intro v H1 ⟨e, fq, nd, fr, rt⟩
    exact k t v H1 fq rfl e nd fr rt (S.add e fq fr (RTs.own t v fq rt)) h
  | er c => exact h
  | no => exact h
-- the rest, told from the state behind the part
theorem Fin.later {r : Rs Tr} {Q : VK} {O' : Addr → Prop} (h : Fin K W F O σ H r Q) (e : Exn H H1) (o : ∀ a, O a → O' a) : Fin K W F O' σ H1 r Q := by
  cases r with
  | ok t =>
    intro v H2 ⟨e2, fq, nd, fr, rt⟩
    refine h v H2 ⟨e.trans e2, fq, nd, fun a ha => e.back (fr a ha), RT.mono (gh_mono (fun a o _ q => q) fun a q => .inl (q.imp (o a) id)) (Exn.refl _) (Exn.refl _) t v fq rt⟩
  | er c => exact fun H2 e2 => h H2 (e.trans e2)
  | no => exact h
theorem FinA.later {r : Rs (List Tr)} {Q : List V → Hp → Prop} {O' : Addr → Prop} (h : FinA K W F O σ H r Q) (e : Exn H H1) (o : ∀ a, O a → O' a) : FinA K W F O' σ H1 r Q := by
  cases r with
  | ok t =>
    intro v H2 ⟨e2, fq, nd, fr, rt⟩
    refine h v H2 ⟨e.trans e2, fq, nd, fun a ha => e.back (fr a ha), RTs.mono (gh_mono (fun a o _ q => q) fun a q => .inl (q.imp (o a) id)) (Exn.refl _) (Exn.refl _) t v fq rt⟩
  | er c => exact fun H2 e2 => h H2 (e.trans e2)
  | no => exact h
-- plain data handed back
theorem Fin.dat {x : PyData} {Q : VK} (h : Fin K W F O σ H (.ok (.d x)) Q) (e : Exn H H1) (r : Rp (gh F O H1) x v) : Q v H1 :=
  h v H1 ⟨e, [], List.nodup_nil, (fun _ h => by cases h), ⟨rfl, Rp.mono (gh_mono (fun _ _ _ q => q) (fun a q => .inl (q.elim id (fun z => by cases z)))) _ _ r⟩⟩
theorem Fin.here {t : Tr} {Q : VK} (h : Fin K W F O σ H (.ok t) Q) (e : Exn H H1) (fq : List Addr) (nd : fq.Nodup) (fr : ∀ a ∈ fq, H a = none) (r : RT K (gh F (fun a => O a ∨ a ∈ fq) H1) H1 F t v fq) : Q v H1 := h v H1 ⟨e, fq, nd, fr, r⟩
theorem Stt.dat (S : Stt K F en σ H fp O) {fq : List Addr} {x : PyData} (r : RT K (gh F O H) H F t v fq) (d : data t = some x) : Rp H x v := RT.data gh_sub S.ex t v fq x r d
end
end RP
namespace RP
open PySem L2

section
variable {K : PySem.W.Frag} {W : WW} {F H H' H1 G : Hp} {en : En} {σ : L2.St} {fp : Nat → List Addr} {O : Addr → Prop} {t : Tr} {v : V}

/-! ### what stands by itself: the heap's good order -/
structure Wf (F : Hp) (O : Addr → Prop) (H : Hp) : Prop where
  own : ∀ a, O a → ∃ o, H a = some o ∧ IsOwn o
  nw : ∀ a, O a → F a = none
  ex : Exn F H
theorem Stt.wf (S : Stt K F en σ H fp O) : Wf F O H := ⟨S.own, S.nw, S.ex⟩
theorem Wf.tup (S : Wf F O H) {a : Addr} {xs : List V} (h : H a = some (.tup xs)) : gh F O H a = some (.tup xs) := gh_tup h fun z => by
  obtain ⟨o, e, q⟩ := S.own a z
  rw [h] at e; cases e
  rcases q with ⟨_, q⟩ | ⟨_, q⟩ <;> cases q
theorem Wf.fresh (S : Wf F O H) {a : Addr} (h : H a = none) : ¬ O a := fun z => by
  obtain ⟨o, e, _⟩ := S.own a z
  rw [h] at e; cases e
theorem Wf.add (S : Wf F O H) (e : Exn H H') (fq : List Addr) (hn : ∀ a ∈ fq, H a = none) (ho : ∀ a ∈ fq, ∃ o, H' a = some o ∧ IsOwn o) : Wf F (fun a => O a ∨ a ∈ fq) H' := by
  refine ⟨fun a h => ?_, fun a h => ?_, S.ex.trans e⟩
  · rcases h with h | h
    · obtain ⟨o, h1, h2⟩ := S.own a h
      exact ⟨o, e a o h1, h2⟩
    · exact ho a h
  · rcases h with h | h
    · exact S.nw a h
    · exact Exn.back S.ex (hn a h)

-- what a rule on values hands on: parts of what came in (fq), or new
def Out (K : PySem.W.Frag) (F : Hp) (O : Addr → Prop) (H : Hp) (fq : List Addr) (t : Tr) (Q : VK) : Prop :=
  ∀ v H' (f : List Addr), Exn H H' → f.Nodup → (∀ a ∈ f, a ∈ fq ∨ H a = none) → RT K (gh F (fun a => O a ∨ a ∈ f) H') H' F t v f → Q v H'
-- a rule on values r does what g says
def COk (K : PySem.W.Frag) (r : List V → Hp → VK → Prop) (g : List Tr → Option Tr) : Prop :=
  ∀ (F : Hp) (O : Addr → Prop) (H : Hp) (ts : List Tr) (vs : List V) (fq : List Addr) (t : Tr) (Q : VK),
    Wf F (fun a => O a ∨ a ∈ fq) H → fq.Nodup → (∀ a ∈ fq, ¬ O a) → RTs K (gh F (fun a => O a ∨ a ∈ fq) H) H F ts vs fq → g ts = some t → Out K F O H fq t Q → r vs H Q
def dPr (g : List Tr → Option Tr) (fa : En → Rs (List Tr)) : En → Rs Tr := fun en => (fa en).bind fun ts => Rs.of (g ts)
theorem tm_pr {fa : En → Rs (List Tr)} {g : List Tr → Option Tr} {r : List V → Hp → VK → Prop} (c : COk K r g) {Q : VK} (h : tM K W (dPr g fa) σ H Q) : tA K W fa σ H (fun vs H1 => r vs H1 Q) := by
  obtain ⟨F, en, fp, O, S, h⟩ := h
  refine ⟨F, en, fp, O, S, Fin.seqA S h fun ts vs H1 fq _ e nd fr rt S1 hf => ?_⟩
  cases hg : g ts with
  | none => rw [hg] at hf; exact hf.elim
  | some t =>
    rw [hg] at hf
    refine c F O H1 ts vs fq t Q S1.wf nd (fun a ha => S.fresh (fr a ha)) rt hg fun v H' f e' nd' fr' rt' => ?_
    exact hf v H' ⟨e.trans e', f, nd', fun a ha => (fr' a ha).elim (fr a) fun q => e.back q, rt'⟩

/-! ### argument lists -/
def dNil : En → Rs (List Tr) := fun _ => .ok []
def dCons (fa : En → Rs Tr) (fr : En → Rs (List Tr)) : En → Rs (List Tr) := fun en => (fa en).bind fun t => (fr en).bind fun ts => .ok (t :: ts)
theorem ta_nil {Q : List V → Hp → Prop} (h : tA K W dNil σ H Q) : tNil σ H Q := by
  obtain ⟨F, en, fp, O, S, h⟩ := h
  exact h [] H ⟨Exn.refl _, [], List.nodup_nil, (fun _ h => by cases h), rfl, rfl⟩
theorem ta_cons {fa : En → Rs Tr} {fr : En → Rs (List Tr)} {Q : List V → Hp → Prop} (h : tA K W (dCons fa fr) σ H Q) : tCons (tM K W fa) (tA K W fr) σ H Q := by
  obtain ⟨F, en, fp, O, S, h⟩ := h
  refine ⟨F, en, fp, O, S, ?_⟩
  unfold dCons at h
  cases ha : fa en with
  | er c => rw [ha] at h; exact h
  | no => rw [ha] at h; exact h
  | ok t =>
    rw [ha] at h
    intro v H1 ⟨e, fq, nd, fr1, rt⟩
    have S1 := S.add e fq fr1 (RT.own t v fq rt)
    refine ⟨F, en, fp, _, S1, ?_⟩
    cases hb : fr en with
    | er c => rw [hb] at h; exact fun H2 e2 => h H2 (e.trans e2)
    | no => rw [hb] at h; exact h
    | ok ts =>
      rw [hb] at h
      intro vs H2 ⟨e2, fq2, nd2, fr2, rt2⟩
      have dis : ∀ a ∈ fq, ∀ b ∈ fq2, a ≠ b := fun a ha b hb q => by
        obtain ⟨o, ho, _⟩ := RT.own t v fq rt a ha
        rw [q, fr2 b hb] at ho; cases ho
      refine h (v :: vs) H2 ⟨e.trans e2, fq ++ fq2, List.nodup_append.mpr ⟨nd, nd2, dis⟩, fun a ha => ?_, v, vs, fq, fq2, rfl, rfl, ?_, ?_⟩
      · rcases List.mem_append.mp ha with q | q
        · exact fr1 a q
        · exact e.back (fr2 a q)
      · refine RT.mono (gh_mono (fun a o _ q => e2 a o q) fun a q => ?_) e2 (Exn.refl _) t v fq rt
        rcases q with q | q
        · exact .inl (.inl q)
        · rcases List.mem_append.mp q with q | q
          · exact .inl (.inr q)
          · exact .inr (fr2 a q)
      · refine RTs.mono (gh_mono (fun a o _ q => q) fun a q => ?_) (Exn.refl _) (Exn.refl _) ts vs fq2 rt2
        rcases q with q | q
        · exact .inl (.inl (.inl q))
        · rcases List.mem_append.mp q with q | q
          · exact .inl (.inl (.inr q))
          · exact .inl (.inr q)

/-! ### names and constants -/
def lend (t : Tr) : Rs Tr := match t with
  | .d x => .ok (.d x)
  | .e x => .ok (.e x)
  | .v x => .ok (.v x)
  | .s ns => .ok (.s ns)
  | .dt _ => .no
  | .ol ts => Rs.of ((datas ts).map fun ds => .v (.list ds))
  | .tp ts => Rs.of ((datas ts).map fun ds => mkV (.tuple ds))
def dVar (i : Nat) : En → Rs Tr := fun en => match en[i]? with
  | some (some t) => lend t
  | _ => .no
theorem lend_ok (S : Wf F O H) {t t' : Tr} {v : V} {f : List Addr} (r : RT K (gh F O H) H F t v f) (h : lend t = .ok t') : RT K (gh F O H) H F t' v [] := by
  have tp : ∀ a vs, H a = some (.tup vs) → gh F O H a = some (.tup vs) := fun a vs q => S.tup q
  cases t with
  | d x => cases h; exact ⟨rfl, r.2⟩
  | e x => cases h; exact ⟨rfl, r.2⟩
  | v x => cases h; exact ⟨rfl, r.2⟩
  | s ns => cases h; exact ⟨rfl, r.2⟩
  | dt kvs => cases h
  | ol ts =>
    cases q : datas ts with
    | none => simp only [lend, q] at h; cases h
    | some ds =>
      simp only [lend, q] at h
      cases h
      exact ⟨rfl, RT.data gh_sub S.ex (.ol ts) v f _ r (by simp only [data, q]; rfl)⟩
  | tp ts =>
    cases q : datas ts with
    | none => simp only [lend, q] at h; cases h
    | some ds =>
      simp only [lend, q] at h
      cases h
      exact RT.mkV (RT.data gh_sub S.ex (.tp ts) v f _ r (by simp only [data, q]; rfl)) tp
theorem tm_var {i : Nat} {Q : VK} (h : tM K W (dVar i) σ H Q) : tVar i σ H Q := by
  obtain ⟨F, en, fp, O, S, h⟩ := h
  unfold dVar at h
  cases e : en[i]? with
  | none => rw [e] at h; exact h.elim
  | some o =>
    rw [e] at h
    cases o with
    | none => exact h.elim
    | some t =>
      obtain ⟨v, hv, r⟩ := S.sl i t e
      refine ⟨v, hv, ?_⟩
      cases l : lend t with
      | ok t' =>
        simp only [l] at h
        exact h v H ⟨Exn.refl _, [], List.nodup_nil, (fun _ h => by cases h), RT.mono (gh_mono (fun _ _ _ q => q) (fun a q => .inl (q.elim id (fun z => by cases z)))) (Exn.refl _) (Exn.refl _) t' v [] (lend_ok S.wf r l)⟩
      | er c =>
        cases t <;> simp only [lend] at l <;> (try cases l)
        · rename_i ts; cases q : datas ts <;> rw [q] at l <;> cases l
        · rename_i ts; cases q : datas ts <;> rw [q] at l <;> cases l
      | no => simp only [l] at h; exact h.elim
def dC (x : PyData) : En → Rs Tr := fun _ => .ok (.d x)
-- scalars
def vOf : PyData → Option V
  | .none => some .non
  | .bool b => some (.bl b)
  | .int i => some (.int i)
  | .str s => some (.str s)
  | _ => none
theorem rp_sc {x : PyData} {v : V} (h : vOf x = some v) (H : Hp) : Rp H x v := by
  cases x <;> simp only [vOf] at h <;> cases h <;> rfl
theorem tm_c {x : PyData} {v : V} (hv : vOf x = some v) {Q : VK} (h : tM K W (dC x) σ H Q) : tC v σ H Q := by
  obtain ⟨F, en, fp, O, S, h⟩ := h
  exact Fin.dat h (Exn.refl _) (rp_sc hv _)

/-! ### rules over plain data with a scalar end -/
def gD (g : List PyData → Option PyData) (ts : List Tr) : Option Tr := (datas ts).bind fun xs => (g xs).map Tr.d
theorem COk.ofD {r : List V → Hp → VK → Prop} {g : List PyData → Option PyData}
    (h : ∀ xs z vs H Q, g xs = some z → Rps H xs vs → (∀ v, vOf z = some v → Q v H) → r vs H Q) : COk K r (gD g) := by
  intro F O H ts vs fq t Q wf nd fr rt hg out
  unfold gD at hg
  obtain ⟨xs, hx, hz1⟩ := Option.bind_eq_some_iff.mp hg
  obtain ⟨z, hz, rfl⟩ := Option.map_eq_some_iff.mp hz1
  refine h xs z vs H Q hz (RTs.datas gh_sub wf.ex ts vs fq xs rt hx) fun v hv => ?_
  exact out v H [] (Exn.refl _) List.nodup_nil (fun _ h => by cases h) ⟨rfl, rp_sc hv _⟩
abbrev r2v (r : R2) : List V → Hp → VK → Prop := fun vs H Q => ∃ x y, vs = [x, y] ∧ r x y H Q
abbrev r1v (r : V → Hp → VK → Prop) : List V → Hp → VK → Prop := fun vs H Q => ∃ x, vs = [x] ∧ r x H Q
theorem rps1 {H : Hp} {x : PyData} {vs : List V} (h : Rps H [x] vs) : ∃ v, vs = [v] ∧ Rp H x v := by
  obtain ⟨v, vs', e, h1, h2⟩ := h
  have e2 : vs' = [] := h2
  subst e2
  exact ⟨v, e, h1⟩
theorem rps2 {H : Hp} {x y : PyData} {vs : List V} (h : Rps H [x, y] vs) : ∃ v w, vs = [v, w] ∧ Rp H x v ∧ Rp H y w := by
  obtain ⟨v, vs', e, h1, h2⟩ := h
  obtain ⟨w, rfl, h3⟩ := rps1 h2
  exact ⟨v, w, e, h1, h3⟩
def gI (C : Int → Int → Bool) (f : Int → Int → PyData) : List PyData → Option PyData
  | [.int i, .int j] => if C i j then some (f i j) else none
  | _ => none
def gU (f : Int → PyData) : List PyData → Option PyData
  | [.int i] => some (f i)
  | _ => none
theorem gI_some {C : Int → Int → Bool} {f : Int → Int → PyData} {xs : List PyData} {z : PyData} (h : gI C f xs = some z) : ∃ i j, xs = [.int i, .int j] ∧ C i j = true ∧ f i j = z := by
  unfold gI at h
  split at h
  · rename_i i j
    split at h
    · rename_i c
      exact ⟨i, j, rfl, c, Option.some.inj h⟩
    · cases h
  · cases h
theorem c_I {C : Int → Int → Bool} {D : Int → Int → Prop} {f : Int → Int → PyData} {g : Int → Int → V} (hc : ∀ i j, C i j = true → D i j) (hv : ∀ i j, vOf (f i j) = some (g i j)) : COk K (r2v (rI D g)) (gD (gI C f)) :=
  COk.ofD fun xs z vs H Q hg hr q => by
    obtain ⟨i, j, rfl, c, rfl⟩ := gI_some hg
    obtain ⟨v, w, rfl, h1, h2⟩ := rps2 hr
    exact ⟨v, w, rfl, i, j, h1, h2, hc i j c, q _ (hv i j)⟩
theorem c_I0 {f : Int → Int → PyData} {g : Int → Int → V} (hv : ∀ i j, vOf (f i j) = some (g i j)) : COk K (r2v (rI0 g)) (gD (gI (fun _ _ => true) f)) :=
  COk.ofD fun xs z vs H Q hg hr q => by
    obtain ⟨i, j, rfl, c, rfl⟩ := gI_some hg
    obtain ⟨v, w, rfl, h1, h2⟩ := rps2 hr
    exact ⟨v, w, rfl, i, j, h1, h2, q _ (hv i j)⟩

/-! ### items of a sequence, as trees -/
def kids : Tr → Option (Bool × List Tr)
  | .d (.list ds) => some (true, ds.map .d)
  | .d (.tuple ds) => some (false, ds.map .d)
  | .e (.list ds) => some (true, ds.map mkE)
  | .e (.tuple ds) => some (false, ds.map mkE)
  | .v (.list ds) => some (true, ds.map mkV)
  | .v (.tuple ds) => some (false, ds.map mkV)
  | .ol ts => some (true, ts)
  | .tp ts => some (false, ts)
  | _ => none
-- .. the script's too
def kidsS : Tr → Option (Bool × List Tr)
  | .s ns => some (true, ns.map fun i => .d (.int i))
  | t => kids t
theorem RT.kids (S : Wf F O H) {t : Tr} {v : V} {f : List Addr} {b : Bool} {ts : List Tr} (r : RT K (gh F O H) H F t v f) (h : kids t = some (b, ts)) :
    ∃ p vs f', v = .ref p ∧ (b = true → H p = some (.lst vs)) ∧ (b = false → H p = some (.tup vs)) ∧ RTs K (gh F O H) H F ts vs f' ∧ f'.Sublist f := by
  have tp : ∀ a vs, H a = some (.tup vs) → gh F O H a = some (.tup vs) := fun a vs q => S.tup q
  have tf : ∀ a vs, F a = some (.tup vs) → gh F O H a = some (.tup vs) := fun a vs q => S.tup (S.ex _ _ q)
  unfold RP.kids at h
  split at h
  · cases h
    obtain ⟨rfl, p, vs, rfl, h1, h2⟩ := r
    exact ⟨p, vs, [], rfl, fun _ => gh_sub _ _ h1, nofun, RTs.ofD h2, List.Sublist.refl _⟩
  · cases h
    obtain ⟨rfl, p, vs, rfl, h1, h2⟩ := r
    exact ⟨p, vs, [], rfl, nofun, fun _ => gh_sub _ _ h1, RTs.ofD h2, List.Sublist.refl _⟩
  · cases h
    obtain ⟨rfl, p, vs, rfl, h1, h2⟩ := r
    exact ⟨p, vs, [], rfl, fun _ => S.ex _ _ h1, nofun, RTs.mkE h2 tf, List.Sublist.refl _⟩
  · cases h
    obtain ⟨rfl, p, vs, rfl, h1, h2⟩ := r
    exact ⟨p, vs, [], rfl, nofun, fun _ => S.ex _ _ h1, RTs.mkE h2 tf, List.Sublist.refl _⟩
  · cases h
    obtain ⟨rfl, p, vs, rfl, h1, h2⟩ := r
    exact ⟨p, vs, [], rfl, fun _ => h1, nofun, RTs.mkV h2 tp, List.Sublist.refl _⟩
  · cases h
    obtain ⟨rfl, p, vs, rfl, h1, h2⟩ := r
    exact ⟨p, vs, [], rfl, nofun, fun _ => h1, RTs.mkV h2 tp, List.Sublist.refl _⟩
  · cases h
    obtain ⟨p, vs, fps, rfl, rfl, h1, h2⟩ := r
    exact ⟨p, vs, fps, rfl, fun _ => h1, nofun, h2, List.sublist_cons_self _ _⟩
  · cases h
    obtain ⟨p, vs, rfl, h1, h2⟩ := r
    exact ⟨p, vs, f, rfl, nofun, fun _ => gh_sub _ _ h1, h2, List.Sublist.refl _⟩
  · cases h
theorem RTs.ofInts {ns : List Int} : RTs K G H F (ns.map fun i => Tr.d (.int i)) (ns.map V.int) [] := by
  induction ns with
  | nil => exact ⟨rfl, rfl⟩
  | cons i r ih => exact ⟨V.int i, r.map V.int, [], [], rfl, rfl, ⟨rfl, rfl⟩, ih⟩
theorem RT.kidsS (S : Wf F O H) {t : Tr} {v : V} {f : List Addr} {b : Bool} {ts : List Tr} (r : RT K (gh F O H) H F t v f) (h : kidsS t = some (b, ts)) :
    ∃ p vs f', v = .ref p ∧ (b = true → SqL K H p vs) ∧ (b = false → SqT K H p vs) ∧ RTs K (gh F O H) H F ts vs f' ∧ f'.Sublist f := by
  cases t with
  | s ns =>
    cases h
    obtain ⟨rfl, a, rfl, q⟩ := r
    exact ⟨a, _, [], rfl, fun _ => sql_mono S.ex q, nofun, RTs.ofInts, List.Sublist.refl _⟩
  | _ =>
    obtain ⟨p, vs, f', e, h1, h2, h3, h4⟩ := RT.kids S r h
    exact ⟨p, vs, f', e, fun q => .inl (.inl (h1 q)), fun q => .inl (.inl (h2 q)), h3, h4⟩

/-! ### subscripts -/
def gIdx : List Tr → Option Tr
  | [.d (.str z), .d (.int i)] => if z.length ≤ 100000 then (atI z.cps.toList i).map fun c => .d (.str ⟨#[c]⟩) else none
  | [t, u] => match data u, kidsS t with
    | some (.int i), some (_, ts) => atI ts i
    | _, _ => none
  | _ => none
theorem atI_get {α : Type} {xs : List α} {i : Int} {x : α} (h : atI xs i = some x) : ∃ j, ixN xs.length i = some j ∧ xs[j]? = some x := by
  unfold atI at h
  obtain ⟨j, h1, h2⟩ := Option.bind_eq_some_iff.mp h
  exact ⟨j, h1, h2⟩
theorem rts2 {G H F : Hp} {t u : Tr} {vs : List V} {fq : List Addr} (h : RTs K G H F [t, u] vs fq) : ∃ v w f f', vs = [v, w] ∧ fq = f ++ f' ∧ RT K G H F t v f ∧ RT K G H F u w f' := by
  obtain ⟨v, vs', f, f', rfl, rfl, h1, w, vs2, f2, f3, rfl, rfl, h2, rfl, rfl⟩ := h
  exact ⟨v, w, f, f2, rfl, by rw [List.append_nil], h1, h2⟩
theorem rts1 {G H F : Hp} {t : Tr} {vs : List V} {fq : List Addr} (h : RTs K G H F [t] vs fq) : ∃ v, vs = [v] ∧ RT K G H F t v fq := by
  obtain ⟨v, vs', f, f', rfl, rfl, h1, rfl, rfl⟩ := h
  exact ⟨v, rfl, by rw [List.append_nil]; exact h1⟩
-- a part of what came in is handed on
theorem Out.part {fq f : List Addr} {Q : VK} (o : Out K F O H fq t Q) (nd : fq.Nodup) (s : f.Sublist fq) (r : RT K (gh F (fun a => O a ∨ a ∈ fq) H) H F t v f) : Q v H :=
  o v H f (Exn.refl _) (s.nodup nd) (fun a ha => .inl (s.subset ha)) (RT.mono (gh_mono (fun _ _ _ q => q) fun a q => .inl (q.imp id fun z => s.subset z)) (Exn.refl _) (Exn.refl _) t v f r)
theorem c_idx : COk K (r2v (rIx K)) gIdx := by
  intro F O H ts vs fq t Q wf nd fr rt hg out
  unfold gIdx at hg
  split at hg
  · rename_i z i
    obtain ⟨v, w, f, f', rfl, rfl, r1, r2⟩ := rts2 rt
    obtain ⟨rfl, rfl⟩ := r1
    obtain ⟨rfl, rfl⟩ := r2
    split at hg
    · rename_i hl
      obtain ⟨c, hc, rfl⟩ := Option.map_eq_some_iff.mp hg
      refine ⟨_, _, rfl, .inr (.inr ⟨z, i, c, rfl, rfl, Nat.le_trans hl (by decide), hc, ?_⟩)⟩
      exact out _ H [] (Exn.refl _) List.nodup_nil (fun _ h => by cases h) ⟨rfl, rfl⟩
    · cases hg
  · rename_i a u _
    obtain ⟨v, w, f, f', rfl, rfl, r1, r2⟩ := rts2 rt
    split at hg
    · rename_i i b ks hd hk
      obtain ⟨p, vs, f1, rfl, h1, h2, h3, h4⟩ := RT.kidsS wf r1 hk
      obtain ⟨j, hj, hx⟩ := atI_get hg
      obtain ⟨x, fx, hx1, hx2, hx3⟩ := RTs.get h3 hx
      have hw : w = .int i := RT.data gh_sub wf.ex u w f' _ r2 hd
      subst hw
      have ha : atI vs i = some x := by
        unfold atI
        rw [h3.length, hj]
        exact hx1
      have fin := out.part nd ((hx2.trans h4).trans (List.sublist_append_left _ _)) hx3
      cases b with
      | true => exact ⟨_, _, rfl, .inl ⟨p, vs, i, x, rfl, rfl, h1 rfl, ha, fin⟩⟩
      | false => exact ⟨_, _, rfl, .inr (.inl ⟨p, vs, i, x, rfl, rfl, h2 rfl, ha, fin⟩)⟩
    · cases hg
  · cases hg
end

/-! ### the rules -/
section
variable {X : Cx} {W : WW} {e a b c : Expr} {es : List Expr} {fa fb fc : En → Rs Tr} {fr : En → Rs (List Tr)} {pos : Pos}
theorem sa_nil : SndA X W [] dNil := pa_wk pa_nil fun _ _ _ h => ta_nil h
theorem sa_cons (ha : Snd X W e fa) (hr : SndA X W es fr) (hs : starEach (e :: es) X.env = (false, eval e X.env) :: starEach es X.env := by rfl) : SndA X W (e :: es) (dCons fa fr) :=
  pa_wk (pa_cons ha hr hs) fun _ _ _ h => ta_cons h
theorem sn_var {i : Nat} (h : PE X e (tVar i)) : Snd X W e (dVar i) := pe_wk h fun _ _ _ q => tm_var q
theorem sn_c {x : PyData} {v : V} (h : PE X e (tC v)) (hv : vOf x = some v := by rfl) : Snd X W e (dC x) := pe_wk h fun _ _ _ q => tm_c hv q
def dBin (g : List Tr → Option Tr) (fa fb : En → Rs Tr) : En → Rs Tr := dPr g (dCons fa (dCons fb dNil))
def dUn (g : List Tr → Option Tr) (fa : En → Rs Tr) : En → Rs Tr := dPr g (dCons fa dNil)
theorem tm_bin {K : PySem.W.Frag} {r : R2} {g : List Tr → Option Tr} (cc : COk K (r2v r) g) {σ : L2.St} {H : Hp} {Q : VK} (h : tM K W (dBin g fa fb) σ H Q) : tOp r (tM K W fa) (tM K W fb) σ H Q := by
  have h1 := tm_pr cc h
  have h2 := ta_cons h1
  obtain ⟨F, en, fp, O, S, h3⟩ := h2
  refine ⟨F, en, fp, O, S, ?_⟩
  cases ha : fa en with
  | er c => rw [ha] at h3; exact h3
  | no => rw [ha] at h3; exact h3
  | ok t =>
    rw [ha] at h3
    intro v H1 p
    obtain ⟨F', en', fp', O', S', h4⟩ := ta_cons (h3 v H1 p)
    refine ⟨F', en', fp', O', S', ?_⟩
    cases hb : fb en' with
    | er c => rw [hb] at h4; exact h4
    | no => rw [hb] at h4; exact h4
    | ok t2 =>
      rw [hb] at h4
      intro w H2 p2
      obtain ⟨x, y, e1, q⟩ := ta_nil (h4 w H2 p2)
      cases e1
      exact q
theorem tm_un {K : PySem.W.Frag} {r : V → Hp → VK → Prop} {g : List Tr → Option Tr} (cc : COk K (r1v r) g) {σ : L2.St} {H : Hp} {Q : VK} (h : tM K W (dUn g fa) σ H Q) : tUn r (tM K W fa) σ H Q := by
  have h1 := tm_pr cc h
  have h2 := ta_cons h1
  obtain ⟨F, en, fp, O, S, h3⟩ := h2
  refine ⟨F, en, fp, O, S, ?_⟩
  cases ha : fa en with
  | er c => rw [ha] at h3; exact h3
  | no => rw [ha] at h3; exact h3
  | ok t =>
    rw [ha] at h3
    intro v H1 p
    obtain ⟨x, e1, q⟩ := ta_nil (h3 v H1 p)
    cases e1
    exact q
theorem sn_op {op : Operator} {r : R2} {g : List Tr → Option Tr} (ho : OpR X (binaryOp op) r) (cc : COk X.K (r2v r) g) (ha : Snd X W a fa) (hb : Snd X W b fb) : Snd X W (.BinOp a op b pos) (dBin g fa fb) :=
  pe_wk (pe_op ho ha hb) fun _ _ _ h => tm_bin cc h
theorem sn_cmp {op : CmpOp} {r : R2} {g : List Tr → Option Tr} (ho : OpR X (compareOp op) r) (cc : COk X.K (r2v r) g) (ha : Snd X W a fa) (hb : Snd X W b fb) (hm : behindInMarks op b = false) : Snd X W (.Compare a [op] [b] pos) (dBin g fa fb) :=
  pe_wk (pe_cmpR ho ha hb hm) fun _ _ _ h => tm_bin cc h
theorem sn_un {op : UnaryOp} {r : V → Hp → VK → Prop} {g : List Tr → Option Tr} (ho : UnR X (unaryOp op) r) (cc : COk X.K (r1v r) g) (ha : Snd X W a fa) : Snd X W (.UnaryOp op a pos) (dUn g fa) :=
  pe_wk (pe_un ho ha) fun _ _ _ h => tm_un cc h
theorem sn_idx (ha : Snd X W a fa) (hb : Snd X W b fb) (hs : PlainIx b) : Snd X W (.Subscript a b pos) (dBin gIdx fa fb) :=
  pe_wk (pe_ix ix_seq ha hb hs) fun _ _ _ h => tm_bin c_idx h
end
end RP
namespace RP
open PySem L2

section
variable {K : PySem.W.Frag} {W : WW} {F H H' H1 G G' : Hp} {en : En} {σ : L2.St} {fp : Nat → List Addr} {O : Addr → Prop} {t : Tr} {v : V}

/-! ### displays -/
def allD : List Tr → Option (List PyData)
  | [] => some []
  | .d x :: ts => (allD ts).map fun xs => x :: xs
  | _ :: _ => none
def mkTp (ts : List Tr) : Tr := match allD ts with
  | some ds => .d (.tuple ds)
  | none => .tp ts
theorem allD_rps : ∀ {ts : List Tr} {ds : List PyData} {vs : List V} {f : List Addr}, RTs K G H F ts vs f → allD ts = some ds → f = [] ∧ Rps G ds vs
  | [], ds, vs, f, h, e => by
    have h' : vs = [] ∧ f = [] := h
    cases e
    exact ⟨h'.2, h'.1⟩
  | .d x :: ts, ds, _, _, ⟨v, vs', f1, f2, e1, e2, ⟨e3, h3⟩, h4⟩, e => by
    have e' : (allD ts).map (fun xs => x :: xs) = some ds := e
    obtain ⟨xs, hx, rfl⟩ := Option.map_eq_some_iff.mp e'
    obtain ⟨e5, h5⟩ := allD_rps h4 hx
    subst e1 e2 e3 e5
    exact ⟨rfl, v, vs', rfl, h3, h5⟩
  | .e _ :: _, _, _, _, _, e => by cases e
  | .v _ :: _, _, _, _, _, e => by cases e
  | .s _ :: _, _, _, _, _, e => by cases e
  | .dt _ :: _, _, _, _, _, e => by cases e
  | .ol _ :: _, _, _, _, _, e => by cases e
  | .tp _ :: _, _, _, _, _, e => by cases e
theorem RT.mkTp {ts : List Tr} {vs : List V} {f : List Addr} {p : Addr} (h : RTs K G H F ts vs f) (hp : G p = some (.tup vs)) : RT K G H F (mkTp ts) (.ref p) f := by
  unfold RP.mkTp
  cases e : allD ts with
  | none => exact ⟨p, vs, rfl, hp, h⟩
  | some ds =>
    obtain ⟨e1, h1⟩ := allD_rps h e
    exact ⟨e1, p, vs, rfl, hp, h1⟩
def gTup (ts : List Tr) : Option Tr := if ts.length ≤ 100000 then some (mkTp ts) else none
def gLst (ts : List Tr) : Option Tr := if ts.length ≤ 100000 then some (.ol ts) else none
theorem sz (n : Nat) (h : n ≤ 100000) : n ≤ sizeLine := Nat.le_trans h (by decide)
-- a new tuple of what came in
theorem Out.tup {fq f : List Addr} {ts : List Tr} {vs : List V} {Q : VK} (wf : Wf F (fun a => O a ∨ a ∈ fq) H) (o : Out K F O H fq (mkTp ts) Q) (nd : fq.Nodup) (s : f.Sublist fq) (r : RTs K (gh F (fun a => O a ∨ a ∈ fq) H) H F ts vs f) {p : Addr} (hp : H p = none) : Q (.ref p) (upd H p (.tup vs)) := by
  have hnp : ¬ (O p ∨ p ∈ fq) := wf.fresh hp
  have hx : Exn H (upd H p (.tup vs)) := Exn.new hp
  have g : Exn (gh F (fun a => O a ∨ a ∈ fq) H) (gh F (fun a => O a ∨ a ∈ f) (upd H p (.tup vs))) := gh_mono (fun a o _ q => hx a o q) fun a q => .inl (q.imp id fun z => s.subset z)
  exact o _ _ f hx (s.nodup nd) (fun a ha => .inl (s.subset ha)) (RT.mkTp (RTs.mono g hx (Exn.refl _) ts vs f r) (gh_tup upd_same fun z => hnp (z.imp id fun q => s.subset q)))
-- a new list of what came in
theorem Out.lst {fq f : List Addr} {ts : List Tr} {vs : List V} {Q : VK} (wf : Wf F (fun a => O a ∨ a ∈ fq) H) (o : Out K F O H fq (.ol ts) Q) (nd : fq.Nodup) (s : f.Sublist fq) (r : RTs K (gh F (fun a => O a ∨ a ∈ fq) H) H F ts vs f) {p : Addr} (hp : H p = none) : Q (.ref p) (upd H p (.lst vs)) := by
  have hnp : ¬ (O p ∨ p ∈ fq) := wf.fresh hp
  have hx : Exn H (upd H p (.lst vs)) := Exn.new hp
  have g : Exn (gh F (fun a => O a ∨ a ∈ fq) H) (gh F (fun a => O a ∨ a ∈ p :: f) (upd H p (.lst vs))) := gh_mono (fun a o _ q => hx a o q) fun a q => by
    rcases q with q | q
    · exact .inl (.inl q)
    · rcases List.mem_cons.mp q with q | q
      · rw [q]; exact .inr hp
      · exact .inl (.inr (s.subset q))
  refine o _ _ (p :: f) hx (List.nodup_cons.mpr ⟨fun z => hnp (.inr (s.subset z)), s.nodup nd⟩) (fun a ha => ?_) ⟨p, vs, f, rfl, rfl, upd_same, RTs.mono g hx (Exn.refl _) ts vs f r⟩
  rcases List.mem_cons.mp ha with q | q
  · rw [q]; exact .inr hp
  · exact .inl (s.subset q)
theorem c_tup : COk K (fun vs H Q => vs.length ≤ sizeLine ∧ ∀ p, H p = none → Q (.ref p) (upd H p (.tup vs))) gTup := by
  intro F O H ts vs fq t Q wf nd fr rt hg out
  unfold gTup at hg
  split at hg
  · rename_i hl
    cases hg
    exact ⟨by rw [rt.length]; exact sz _ hl, fun p hp => out.tup wf nd (List.Sublist.refl _) rt hp⟩
  · cases hg
theorem c_lst : COk K (fun vs H Q => vs.length ≤ sizeLine ∧ ∀ p, H p = none → Q (.ref p) (upd H p (.lst vs))) gLst := by
  intro F O H ts vs fq t Q wf nd fr rt hg out
  unfold gLst at hg
  split at hg
  · rename_i hl
    cases hg
    exact ⟨by rw [rt.length]; exact sz _ hl, fun p hp => out.lst wf nd (List.Sublist.refl _) rt hp⟩
  · cases hg

/-! ### + -/
def gCat : List Tr → Option Tr
  | [t, u] => match kids t, kids u with
    | some (true, as), some (true, bs) => if as.length + bs.length ≤ 100000 then some (.ol (as ++ bs)) else none
    | some (false, as), some (false, bs) => if as.length + bs.length ≤ 100000 then some (mkTp (as ++ bs)) else none
    | _, _ => none
  | _ => none
def gStrCat : List PyData → Option PyData
  | [.str i, .str j] => if i.length + j.length ≤ 100000 then some (.str (i ++ j)) else none
  | _ => none
def gAdd (ts : List Tr) : Option Tr := match ts with
  | [.d (.int i), .d (.int j)] => some (.d (.int (i + j)))
  | [.d (.str i), .d (.str j)] => gD gStrCat [.d (.str i), .d (.str j)]
  | ts => gCat ts
theorem c_cat : COk K (r2v (fun x y H Q => rCat x y H Q ∨ rCatA K x y H Q)) gCat := by
  intro F O H ts vs fq t Q wf nd fr rt hg out
  unfold gCat at hg
  split at hg
  · rename_i a b
    obtain ⟨v, w, f, f', rfl, rfl, r1, r2⟩ := rts2 rt
    split at hg
    · rename_i as bs ha hb
      split at hg
      · rename_i hl
        cases hg
        obtain ⟨p, xs, f1, rfl, h1, -, h3, h4⟩ := RT.kids wf r1 ha
        obtain ⟨q, ys, f2, rfl, k1, -, k3, k4⟩ := RT.kids wf r2 hb
        refine ⟨_, _, rfl, .inl ⟨p, q, xs, ys, rfl, rfl, h1 rfl, k1 rfl, by rw [h3.length, k3.length]; exact sz _ hl, fun z hz => ?_⟩⟩
        exact out.lst wf nd (h4.append k4) (RTs.append h3 k3) hz
      · cases hg
    · rename_i as bs ha hb
      split at hg
      · rename_i hl
        cases hg
        obtain ⟨p, xs, f1, rfl, -, h1, h3, h4⟩ := RT.kids wf r1 ha
        obtain ⟨q, ys, f2, rfl, -, k1, k3, k4⟩ := RT.kids wf r2 hb
        refine ⟨_, _, rfl, .inr ⟨p, q, xs, ys, rfl, rfl, .inl (.inl (h1 rfl)), .inl (.inl (k1 rfl)), by rw [h3.length, k3.length]; exact sz _ hl, fun e => ?_, fun _ e => ?_, fun _ _ z hz => ?_⟩⟩
        · subst e
          have e1 : as = [] := by
            have := h3.length
            cases as with
            | nil => rfl
            | cons _ _ => cases this
          subst e1
          refine out.part nd (k4.trans (List.sublist_append_right _ _)) (RT.mkTp (vs := ys) (by simpa using k3) (wf.tup (k1 rfl)))
        · subst e
          have e1 : bs = [] := by
            have := k3.length
            cases bs with
            | nil => rfl
            | cons _ _ => cases this
          subst e1
          refine out.part nd (h4.trans (List.sublist_append_left _ _)) (RT.mkTp (vs := xs) (by simpa using h3) (wf.tup (h1 rfl)))
        · exact out.tup wf nd (h4.append k4) (RTs.append h3 k3) hz
      · cases hg
    · cases hg
  · cases hg
theorem COk.imp {r r' : List V → Hp → VK → Prop} {g : List Tr → Option Tr} (c : COk K r g) (h : ∀ vs H Q, r vs H Q → r' vs H Q) : COk K r' g :=
  fun F O H ts vs fq t Q wf nd fr rt hg out => h _ _ _ (c F O H ts vs fq t Q wf nd fr rt hg out)
def rAddA (K : PySem.W.Frag) : R2 := fun x y H Q => rI0 (fun i j => .int (i + j)) x y H Q ∨ (∃ i j, x = .str i ∧ y = .str j ∧ i.length + j.length ≤ sizeLine ∧ Q (.str (i ++ j)) H) ∨ rCat x y H Q ∨ rCatA K x y H Q
theorem c_add : COk K (r2v (rAddA K)) gAdd := by
  intro F O H ts vs fq t Q wf nd fr rt hg out
  unfold gAdd at hg
  split at hg
  · rename_i i j
    cases hg
    obtain ⟨v, w, f, f', rfl, rfl, ⟨rfl, rfl⟩, ⟨rfl, rfl⟩⟩ := rts2 rt
    exact ⟨_, _, rfl, .inl ⟨i, j, rfl, rfl, out _ H [] (Exn.refl _) List.nodup_nil (fun _ h => by cases h) ⟨rfl, rfl⟩⟩⟩
  · rename_i i j
    have c : COk K (r2v (fun x y H Q => ∃ i j, x = .str i ∧ y = .str j ∧ i.length + j.length ≤ sizeLine ∧ Q (.str (i ++ j)) H)) (gD gStrCat) := COk.ofD fun xs z vs H Q hg hr q => by
      unfold gStrCat at hg
      split at hg
      · split at hg
        · rename_i i j hl
          cases hg
          obtain ⟨v, w, rfl, h1, h2⟩ := rps2 hr
          exact ⟨v, w, rfl, i, j, h1, h2, sz _ hl, q _ rfl⟩
        · cases hg
      · cases hg
    obtain ⟨x, y, e, q⟩ := c F O H _ vs fq t Q wf nd fr rt hg out
    exact ⟨x, y, e, .inr (.inl q)⟩
  · obtain ⟨x, y, e, q⟩ := c_cat F O H _ vs fq t Q wf nd fr rt hg out
    exact ⟨x, y, e, .inr (.inr q)⟩

/-! ### numbers -/
def gSub : List Tr → Option Tr := gD (gI (fun _ _ => true) fun i j => .int (i - j))
-- within m, either way (told so that it is reckoned without counting)
def within (m : Nat) (i : Int) : Bool := Nat.blt i.natAbs m
theorem within_iff {m : Nat} {i : Int} : within m i = true ↔ i.natAbs < m := by
  unfold within
  rw [Nat.blt_eq]
def gMul : List Tr → Option Tr := gD (gI (fun i j => within 18446744073709551616 i || within 18446744073709551616 j) fun i j => .int (i * j))
def gMod : List Tr → Option Tr := gD (gI (fun _ j => decide (0 < j)) fun i j => .int (i % j))
def gDiv : List Tr → Option Tr := gD (gI (fun _ j => decide (0 < j) && within 1073741824 j) fun i j => .int (i / j))
def powOk (i j : Int) : Bool := decide (0 ≤ j) && ((within 1000000 j && within 18446744073709551616 i) || (within 64 j && Nat.blt i.natAbs.log2 2000000))
def CPowW (i j : Int) : Prop := 0 ≤ j ∧ ((Builtin.Int.intBits i : Nat) : Int) * j ≤ 2 ^ 27
theorem op_powW {X : Cx} : OpR X (binaryOp .Pow) (rI CPowW fun i j => .int (i ^ j.toNat)) := opI fun _ _ _ _ _ _ _ hc q => PyProof.Rows.pow_int hc.1 hc.2 q
theorem powOk_C {i j : Int} (h : powOk i j = true) : CPowW i j := by
  unfold powOk at h
  rw [Bool.and_eq_true, Bool.or_eq_true, Bool.and_eq_true, Bool.and_eq_true, within_iff, within_iff, within_iff, decide_eq_true_eq, Nat.blt_eq] at h
  obtain ⟨h0, h⟩ := h
  refine ⟨h0, ?_⟩
  rcases h with ⟨h1, h2⟩ | ⟨h1, h2⟩
  · exact PyProof.Rows.bits_mul_le (by have e : (2 : Nat) ^ 64 = 18446744073709551616 := by decide
                                       omega) h0 (by omega)
  · have hb : Builtin.Int.intBits i ≤ 2000000 := by
      unfold Builtin.Int.intBits
      split <;> omega
    have e : ((Builtin.Int.intBits i : Nat) : Int) * j ≤ 2000000 * 64 := Int.mul_le_mul (by omega) (by omega) h0 (by omega)
    have : (2 : Int) ^ 27 = 134217728 := by decide
    omega
def gPow : List Tr → Option Tr := gD (gI powOk fun i j => .int (i ^ j.toNat))
def gNeg : List Tr → Option Tr := gD (gU fun i => .int (-i))
theorem c_sub : COk K (r2v (rI0 fun i j => .int (i - j))) gSub := c_I0 fun _ _ => rfl
theorem c_mul : COk K (r2v (rI CMul fun i j => .int (i * j))) gMul := c_I (fun i j h => by
  rw [Bool.or_eq_true, within_iff, within_iff] at h
  unfold CMul
  omega) fun _ _ => rfl
theorem c_mod : COk K (r2v (rI (fun _ j => 0 < j) fun i j => .int (i % j))) gMod := c_I (fun i j h => of_decide_eq_true h) fun _ _ => rfl
theorem c_div : COk K (r2v (rI CDiv fun i j => .int (i / j))) gDiv := c_I (fun i j h => by
  rw [Bool.and_eq_true, within_iff, decide_eq_true_eq] at h
  unfold CDiv
  omega) fun _ _ => rfl
theorem c_pow : COk K (r2v (rI CPowW fun i j => .int (i ^ j.toNat))) gPow := c_I (fun i j h => powOk_C h) fun _ _ => rfl
theorem c_neg : COk K (r1v (rU fun i => .int (-i))) gNeg := COk.ofD fun xs z vs H Q hg hr q => by
  unfold gU at hg
  split at hg
  · rename_i i
    cases hg
    obtain ⟨v, rfl, h1⟩ := rps1 hr
    exact ⟨v, rfl, i, h1, q _ rfl⟩
  · cases hg
def gB (f : Int → Int → Bool) : List Tr → Option Tr := gD (gI (fun _ _ => true) fun i j => .bool (f i j))
theorem c_B {f : Int → Int → Bool} : COk K (r2v (rI0 fun i j => .bl (f i j))) (gB f) := c_I0 fun _ _ => rfl
abbrev gLt := gB fun i j => decide (i < j)
abbrev gLe := gB fun i j => decide (i ≤ j)
abbrev gGt := gB fun i j => decide (j < i)
abbrev gGe := gB fun i j => decide (j ≤ i)

/-! ### ==, in, is -/
def shk : Nat → PyData → Bool
  | _, .none => true
  | _, .bool _ => true
  | _, .int _ => true
  | _, .str s => PyData.strOk s
  | n + 1, .list ds => ds.all (shk n)
  | n + 1, .tuple ds => ds.all (shk n)
  | _, _ => false
theorem shk_all {n : Nat} (ih : ∀ d, shk n d = true → PyData.canLay0 d = true ∧ PyData.depth d ≤ n) : ∀ ds : List PyData, ds.all (shk n) = true → PyData.canLayAll0 ds = true ∧ PyData.depthAll ds ≤ n
  | [], _ => ⟨rfl, Nat.zero_le _⟩
  | d :: ds, h => by
    rw [List.all_cons, Bool.and_eq_true] at h
    obtain ⟨a1, a2⟩ := ih d h.1
    obtain ⟨b1, b2⟩ := shk_all ih ds h.2
    refine ⟨?_, ?_⟩
    · show (PyData.canLay0 d && PyData.canLayAll0 ds) = true
      rw [a1, b1]; rfl
    · show max (PyData.depth d) (PyData.depthAll ds) ≤ n
      omega
theorem shk_ok : ∀ (n : Nat) (d : PyData), shk n d = true → PyData.canLay0 d = true ∧ PyData.depth d ≤ n
  | _, .none, _ => ⟨rfl, Nat.zero_le _⟩
  | _, .bool _, _ => ⟨rfl, Nat.zero_le _⟩
  | _, .int _, _ => ⟨rfl, Nat.zero_le _⟩
  | n, .str s, h => by
    have h' : PyData.strOk s = true := by cases n <;> exact h
    exact ⟨h', Nat.zero_le _⟩
  | 0, .list _, h => by cases h
  | 0, .tuple _, h => by cases h
  | n, .dict _, h => by cases n <;> cases h
  | n + 1, .list ds, h => by
    obtain ⟨a, b⟩ := shk_all (fun d => shk_ok n d) ds h
    refine ⟨a, ?_⟩
    show PyData.depthAll ds + 1 ≤ n + 1
    omega
  | n + 1, .tuple ds, h => by
    obtain ⟨a, b⟩ := shk_all (fun d => shk_ok n d) ds h
    refine ⟨a, ?_⟩
    show PyData.depthAll ds + 1 ≤ n + 1
    omega
theorem shk_shaped {d : PyData} (h : shk 40 d = true) : SeqAt.shaped d = true := by
  obtain ⟨a, b⟩ := shk_ok 40 d h
  unfold SeqAt.shaped
  rw [a, decide_eq_true (by omega)]
  rfl
def gEqD (neg : Bool) : List PyData → Option PyData
  | [x, y] => if shk 40 x && shk 40 y then some (.bool (if neg then !PyData.eqv x y else PyData.eqv x y)) else none
  | _ => none
def gEq : List Tr → Option Tr := gD (gEqD false)
def gNe : List Tr → Option Tr := gD (gEqD true)
theorem c_eq : COk K (r2v (rEqD K)) gEq := COk.ofD fun xs z vs H Q hg hr q => by
  unfold gEqD at hg
  split at hg
  · rename_i x y
    split at hg
    · rename_i hs
      rw [Bool.and_eq_true] at hs
      cases hg
      obtain ⟨v, w, rfl, h1, h2⟩ := rps2 hr
      exact ⟨v, w, rfl, x, y, Rp.dp x v h1, Rp.dp y w h2, shk_shaped hs.1, shk_shaped hs.2, q _ rfl⟩
    · cases hg
  · cases hg
theorem c_ne : COk K (r2v (rNeD K)) gNe := COk.ofD fun xs z vs H Q hg hr q => by
  unfold gEqD at hg
  split at hg
  · rename_i x y
    split at hg
    · rename_i hs
      rw [Bool.and_eq_true] at hs
      cases hg
      obtain ⟨v, w, rfl, h1, h2⟩ := rps2 hr
      exact ⟨v, w, rfl, x, y, Rp.dp x v h1, Rp.dp y w h2, shk_shaped hs.1, shk_shaped hs.2, q _ rfl⟩
    · cases hg
  · cases hg
-- in a list
def gInD (neg : Bool) : List PyData → Option PyData
  | [x, .list ds] => if shk 40 x && shk 40 (.list ds) then some (.bool (if neg then !ds.any (fun z => PyData.eqv z x) else ds.any fun z => PyData.eqv z x)) else none
  | _ => none
def gIn : List Tr → Option Tr := gD (gInD false)
def gNin : List Tr → Option Tr := gD (gInD true)
theorem c_in : COk K (r2v (rInD K)) gIn := COk.ofD fun xs z vs H Q hg hr q => by
  unfold gInD at hg
  split at hg
  · rename_i x ds
    split at hg
    · rename_i hs
      rw [Bool.and_eq_true] at hs
      cases hg
      obtain ⟨v, w, rfl, h1, h2⟩ := rps2 hr
      exact ⟨v, w, rfl, x, ds, Rp.dp x v h1, Rp.dp _ w h2, shk_shaped hs.1, shk_shaped hs.2, q _ rfl⟩
    · cases hg
  · cases hg
theorem c_nin : COk K (r2v (rNotInD K)) gNin := COk.ofD fun xs z vs H Q hg hr q => by
  unfold gInD at hg
  split at hg
  · rename_i x ds
    split at hg
    · rename_i hs
      rw [Bool.and_eq_true] at hs
      cases hg
      obtain ⟨v, w, rfl, h1, h2⟩ := rps2 hr
      exact ⟨v, w, rfl, x, ds, Rp.dp x v h1, Rp.dp _ w h2, shk_shaped hs.1, shk_shaped hs.2, q _ rfl⟩
    · cases hg
  · cases hg
-- not in a tuple of flat things
def fl : PyData → Bool
  | .none => true
  | .bool _ => true
  | .int _ => true
  | .str _ => true
  | _ => false
def gInT (neg : Bool) : List PyData → Option PyData
  | [x, .tuple ds] => if fl x && ds.all fl then some (.bool (if neg then !ds.any (fun z => PyData.eqv z x) else ds.any fun z => PyData.eqv z x)) else none
  | _ => none
theorem fl_flat {x : PyData} {v : V} {H : Hp} (h : fl x = true) (r : Rp H x v) : flatV v = true ∧ vOf x = some v := by
  cases x <;> simp only [fl] at h <;> (try cases h) <;> (cases (show _ = _ from r)) <;> exact ⟨rfl, rfl⟩
theorem eqv_flat {x y : PyData} {v w : V} (hx : vOf x = some v) (hy : vOf y = some w) : eqV v w = PyData.eqv x y := by
  cases x <;> simp only [vOf] at hx <;> cases hx <;> cases y <;> simp only [vOf] at hy <;> cases hy <;> (try rfl) <;> simp [eqV, PyData.eqv]
theorem fl_all {x : PyData} {v : V} (hx : vOf x = some v) : ∀ {ds : List PyData} {vs : List V}, Rps H ds vs → ds.all fl = true → vs.all flatV = true ∧ inV v vs = ds.any fun z => PyData.eqv z x
  | [], vs, h, _ => by
    have e : vs = [] := h
    subst e
    exact ⟨rfl, rfl⟩
  | d :: ds, vs, ⟨w, ws, e, h1, h2⟩, ha => by
    rw [List.all_cons, Bool.and_eq_true] at ha
    obtain ⟨q1, q2⟩ := fl_flat ha.1 h1
    obtain ⟨q3, q4⟩ := fl_all hx h2 ha.2
    subst e
    refine ⟨by rw [List.all_cons, q1, q3]; rfl, ?_⟩
    unfold inV at q4 ⊢
    rw [List.any_cons, List.any_cons, q4, eqv_flat q2 hx]
theorem c_inT (neg : Bool) : COk K (r2v (rIn K neg)) (gD (gInT neg)) := COk.ofD fun xs z vs H Q hg hr q => by
  unfold gInT at hg
  split at hg
  · rename_i x ds
    split at hg
    · rename_i hs
      rw [Bool.and_eq_true] at hs
      cases hg
      obtain ⟨v, w, rfl, h1, p, us, rfl, h2, h3⟩ := rps2 hr
      obtain ⟨a1, a2⟩ := fl_flat hs.1 h1
      obtain ⟨b1, b2⟩ := fl_all a2 h3 hs.2
      refine ⟨v, _, rfl, p, us, rfl, .inr (.inl (.inl h2)), a1, b1, ?_⟩
      rw [b2]
      exact q _ rfl
    · cases hg
  · cases hg
-- one sign in a text
def gInS (neg : Bool) : List PyData → Option PyData
  | [.str c, .str z] => match c.cps.toList with
    | [n] => some (.bool (if neg then !decide (n ∈ z.cps.toList) else decide (n ∈ z.cps.toList)))
    | _ => none
  | _ => none
theorem str_one {c : Str} {n : Nat} (h : c.cps.toList = [n]) : c = ⟨#[n]⟩ := by
  obtain ⟨a⟩ := c
  have : a = #[n] := Array.ext' h
  rw [this]
theorem c_inS (neg : Bool) : COk K (r2v (fun x y H Q => ∃ (c : Nat) (z : Str), x = .str ⟨#[c]⟩ ∧ y = .str z ∧ Q (.bl (if neg then !decide (c ∈ z.cps.toList) else decide (c ∈ z.cps.toList))) H)) (gD (gInS neg)) := COk.ofD fun xs z vs H Q hg hr q => by
  unfold gInS at hg
  split at hg
  · rename_i c z
    split at hg
    · rename_i n e
      cases hg
      obtain ⟨v, w, rfl, h1, h2⟩ := rps2 hr
      rw [str_one e] at h1
      exact ⟨v, w, rfl, n, z, h1, h2, q _ rfl⟩
    · cases hg
  · cases hg
-- is None
def isN : PyData → Bool
  | .none => true
  | _ => false
def gIsN (neg : Bool) : List PyData → Option PyData
  | [x, .none] => some (.bool (if neg then !isN x else isN x))
  | _ => none
theorem rp_isN {x : PyData} {v : V} (r : Rp H x v) : decide (v = .non) = isN x := by
  cases x with
  | none => cases (show v = .non from r); rfl
  | bool b => cases (show v = .bl b from r); rfl
  | int i => cases (show v = .int i from r); rfl
  | str s => cases (show v = .str s from r); rfl
  | list ds => obtain ⟨a, vs, rfl, _⟩ := r; rfl
  | tuple ds => obtain ⟨a, vs, rfl, _⟩ := r; rfl
  | dict _ => exact r.elim
theorem c_isN : COk K (r2v (fun x y H Q => y = .non ∧ Q (.bl (decide (x = .non))) H)) (gD (gIsN false)) := COk.ofD fun xs z vs H Q hg hr q => by
  unfold gIsN at hg
  split at hg
  · rename_i x
    cases hg
    obtain ⟨v, w, rfl, h1, h2⟩ := rps2 hr
    refine ⟨v, w, rfl, h2, ?_⟩
    rw [rp_isN h1]
    exact q _ rfl
  · cases hg
theorem c_notN : COk K (r2v (fun x y H Q => y = .non ∧ Q (.bl (!decide (x = .non))) H)) (gD (gIsN true)) := COk.ofD fun xs z vs H Q hg hr q => by
  unfold gIsN at hg
  split at hg
  · rename_i x
    cases hg
    obtain ⟨v, w, rfl, h1, h2⟩ := rps2 hr
    refine ⟨v, w, rfl, h2, ?_⟩
    rw [rp_isN h1]
    exact q _ rfl
  · cases hg
-- is not of two bools
def gIsB : List PyData → Option PyData
  | [.bool a, .bool b] => some (.bool (!decide (a = b)))
  | _ => none
theorem c_notB : COk K (r2v (fun x y H Q => ∃ a b, x = .bl a ∧ y = .bl b ∧ Q (.bl (!decide (a = b))) H)) (gD gIsB) := COk.ofD fun xs z vs H Q hg hr q => by
  unfold gIsB at hg
  split at hg
  · rename_i a b
    cases hg
    obtain ⟨v, w, rfl, h1, h2⟩ := rps2 hr
    exact ⟨v, w, rfl, a, b, h1, h2, q _ rfl⟩
  · cases hg

/-! ### slices -/
def cutL {α : Type} (xs : List α) (lo hi : Option Int) : List α := (xs.drop (HT.sIx xs.length 0 lo)).take (HT.sIx xs.length xs.length hi - HT.sIx xs.length 0 lo)
theorem RTs.drop : ∀ {ts : List Tr} {vs : List V} {f : List Addr} (n : Nat), RTs K G H F ts vs f → ∃ f', RTs K G H F (ts.drop n) (vs.drop n) f' ∧ f'.Sublist f
  | ts, vs, f, 0, h => ⟨f, h, List.Sublist.refl _⟩
  | [], vs, f, n + 1, h => by
    have h' : vs = [] ∧ f = [] := h
    obtain ⟨rfl, rfl⟩ := h'
    exact ⟨[], ⟨rfl, rfl⟩, List.Sublist.refl _⟩
  | t :: ts, _, _, n + 1, ⟨v, vs', f1, f2, e1, e2, _, h4⟩ => by
    subst e1 e2
    obtain ⟨f', a, b⟩ := RTs.drop n h4
    exact ⟨f', a, b.trans (List.sublist_append_right _ _)⟩
theorem RTs.take : ∀ {ts : List Tr} {vs : List V} {f : List Addr} (n : Nat), RTs K G H F ts vs f → ∃ f', RTs K G H F (ts.take n) (vs.take n) f' ∧ f'.Sublist f
  | ts, vs, f, 0, h => ⟨[], by rw [List.take_zero, List.take_zero]; exact ⟨rfl, rfl⟩, List.nil_sublist _⟩
  | [], vs, f, n + 1, h => by
    have h' : vs = [] ∧ f = [] := h
    obtain ⟨rfl, rfl⟩ := h'
    exact ⟨[], ⟨rfl, rfl⟩, List.Sublist.refl _⟩
  | t :: ts, _, _, n + 1, ⟨v, vs', f1, f2, e1, e2, h3, h4⟩ => by
    subst e1 e2
    obtain ⟨f', a, b⟩ := RTs.take n h4
    exact ⟨f1 ++ f', ⟨v, _, f1, f', rfl, rfl, h3, a⟩, (List.Sublist.refl _).append b⟩
theorem RTs.cut {ts : List Tr} {vs : List V} {f : List Addr} (lo hi : Option Int) (h : RTs K G H F ts vs f) : ∃ f', RTs K G H F (cutL ts lo hi) (cutV vs lo hi) f' ∧ f'.Sublist f := by
  unfold cutL cutV
  rw [h.length]
  obtain ⟨f1, a1, b1⟩ := h.drop (HT.sIx ts.length 0 lo)
  obtain ⟨f2, a2, b2⟩ := a1.take (HT.sIx ts.length ts.length hi - HT.sIx ts.length 0 lo)
  exact ⟨f2, a2, b2.trans b1⟩
def gCut (t : Tr) (lo hi : Option Int) : Option Tr := match t with
  | .d (.str z) => if z.length ≤ 100000 then some (.d (.str (cutS z lo hi))) else none
  | t => match kids t with
    | some (true, ts) => some (.ol (cutL ts lo hi))
    | some (false, ts) => some (mkTp (cutL ts lo hi))
    | none => none
def rSlAll (K : PySem.W.Frag) : V → Option Int → Option Int → Hp → VK → Prop := fun x lo hi H Q => rSlL K x lo hi H Q ∨ rSlA K x lo hi H Q ∨ rSlS x lo hi H Q
theorem c_cut {fq : List Addr} {t t' : Tr} {v : V} {f : List Addr} {lo hi : Option Int} {Q : VK} (wf : Wf F (fun a => O a ∨ a ∈ fq) H) (nd : fq.Nodup) (r : RT K (gh F (fun a => O a ∨ a ∈ fq) H) H F t v f) (s : f.Sublist fq) (hg : gCut t lo hi = some t') (out : Out K F O H fq t' Q) : rSlAll K v lo hi H Q := by
  unfold gCut at hg
  split at hg
  · rename_i z
    obtain ⟨rfl, rfl⟩ := r
    split at hg
    · rename_i hl
      cases hg
      exact .inr (.inr ⟨z, rfl, sz _ hl, out _ H [] (Exn.refl _) List.nodup_nil (fun _ h => by cases h) ⟨rfl, rfl⟩⟩)
    · cases hg
  · split at hg
    · rename_i ts hk
      cases hg
      obtain ⟨p, vs, f1, rfl, h1, -, h3, h4⟩ := RT.kids wf r hk
      obtain ⟨f2, a, b⟩ := h3.cut lo hi
      exact .inl ⟨p, vs, rfl, .inl (.inl (h1 rfl)), fun q hq => out.lst wf nd ((b.trans h4).trans s) a hq⟩
    · rename_i ts hk
      cases hg
      obtain ⟨p, vs, f1, rfl, -, h1, h3, h4⟩ := RT.kids wf r hk
      obtain ⟨f2, a, b⟩ := h3.cut lo hi
      refine .inr (.inl ⟨p, vs, rfl, .inl (.inl (h1 rfl)), fun e => ?_, fun _ q hq => out.tup wf nd ((b.trans h4).trans s) a hq⟩)
      refine out.part nd ((b.trans h4).trans s) (RT.mkTp a ?_)
      have e1 : cutV vs lo hi = vs := by
        unfold cutV
        rw [e.1, e.2, List.drop_zero, Nat.sub_zero, List.take_length]
      rw [e1]
      exact wf.tup (h1 rfl)
    · cases hg
def gSlB : List Tr → Option Tr
  | [t, .d (.int i), .d (.int j)] => gCut t (some i) (some j)
  | _ => none
def gSlL : List Tr → Option Tr
  | [t, .d (.int i)] => gCut t (some i) none
  | _ => none
def gSlH : List Tr → Option Tr
  | [t, .d (.int j)] => gCut t none (some j)
  | _ => none
theorem c_slB : COk K (fun vs H Q => ∃ x i j, vs = [x, .int i, .int j] ∧ rSlAll K x (some i) (some j) H Q) gSlB := by
  intro F O H ts vs fq t Q wf nd fr rt hg out
  unfold gSlB at hg
  split at hg
  · rename_i a i j
    obtain ⟨v, vs', f, f', rfl, rfl, h1, h2⟩ := rt
    obtain ⟨w, u, f2, f3, rfl, rfl, ⟨rfl, rfl⟩, ⟨rfl, rfl⟩⟩ := rts2 h2
    exact ⟨v, i, j, rfl, c_cut wf nd h1 (by simp) hg out⟩
  · cases hg
theorem c_slL : COk K (fun vs H Q => ∃ x i, vs = [x, .int i] ∧ rSlAll K x (some i) none H Q) gSlL := by
  intro F O H ts vs fq t Q wf nd fr rt hg out
  unfold gSlL at hg
  split at hg
  · rename_i a i
    obtain ⟨w, u, f2, f3, rfl, rfl, h1, ⟨rfl, rfl⟩⟩ := rts2 rt
    exact ⟨w, i, rfl, c_cut wf nd h1 (by simp) hg out⟩
  · cases hg
theorem c_slH : COk K (fun vs H Q => ∃ x i, vs = [x, .int i] ∧ rSlAll K x none (some i) H Q) gSlH := by
  intro F O H ts vs fq t Q wf nd fr rt hg out
  unfold gSlH at hg
  split at hg
  · rename_i a i
    obtain ⟨w, u, f2, f3, rfl, rfl, h1, ⟨rfl, rfl⟩⟩ := rts2 rt
    exact ⟨w, i, rfl, c_cut wf nd h1 (by simp) hg out⟩
  · cases hg
end
end RP
namespace RP
open PySem L2

section
variable {X : Cx} {W : WW} {e a b c : Expr} {es rest : List Expr} {fa fb fc : En → Rs Tr} {fr : En → Rs (List Tr)} {pos : Pos}
/-! ### + and its kin -/
theorem sn_add (ha : Snd X W a fa) (hb : Snd X W b fb) : Snd X W (.BinOp a .Add b pos) (dBin gAdd fa fb) :=
  sn_op (OpR.or op_add (OpR.or op_add_str (OpR.or op_cat op_catA))) c_add ha hb
theorem sn_sub (ha : Snd X W a fa) (hb : Snd X W b fb) : Snd X W (.BinOp a .Sub b pos) (dBin gSub fa fb) := sn_op op_sub c_sub ha hb
theorem sn_mul (ha : Snd X W a fa) (hb : Snd X W b fb) : Snd X W (.BinOp a .Mult b pos) (dBin gMul fa fb) := sn_op op_mul c_mul ha hb
theorem sn_mod (ha : Snd X W a fa) (hb : Snd X W b fb) : Snd X W (.BinOp a .Mod b pos) (dBin gMod fa fb) := sn_op op_mod c_mod ha hb
theorem sn_div (ha : Snd X W a fa) (hb : Snd X W b fb) : Snd X W (.BinOp a .FloorDiv b pos) (dBin gDiv fa fb) := sn_op op_fdiv c_div ha hb
theorem sn_pow (ha : Snd X W a fa) (hb : Snd X W b fb) : Snd X W (.BinOp a .Pow b pos) (dBin gPow fa fb) := sn_op op_powW c_pow ha hb
theorem sn_neg (ha : Snd X W a fa) : Snd X W (.UnaryOp .USub a pos) (dUn gNeg fa) := sn_un un_neg c_neg ha

/-! ### tests -/
def FinB (W : WW) (σ : L2.St) (H : Hp) (r : Rs Bool) (Q : Bool → Hp → Prop) : Prop :=
  match r with
  | .ok b => ∀ H', Exn H H' → Q b H'
  | .er c => ∀ H', Exn H H' → W c σ H'
  | .no => False
def tT (K : PySem.W.Frag) (W : WW) (f : En → Rs Bool) : TT := fun σ H Q => ∃ F en fp O, Stt K F en σ H fp O ∧ FinB W σ H (f en) Q
abbrev SndT (X : Cx) (W : WW) (e : Expr) (f : En → Rs Bool) : Prop := PT X e (tT X.K W f)
abbrev SndW (X : Cx) (W : WW) (e : Expr) (f : En → Rs Bool) : Prop := PW X e (tT X.K W f)
theorem pw_wk {X : Cx} {e : Expr} {t t' : TT} (h : PW X e t) (w : ∀ σ H Q, t' σ H Q → t σ H Q) : PW X e t' := ⟨fun wh pins s σ H Q I q => h.run wh pins s σ H Q I (w σ H Q q)⟩
def asB : Tr → Rs Bool
  | .d (.bool b) => .ok b
  | _ => .no
def dB (f : En → Rs Tr) : En → Rs Bool := fun en => (f en).bind asB
theorem tb_of {K : PySem.W.Frag} {f : En → Rs Tr} {σ : L2.St} {H : Hp} {Q : Bool → Hp → Prop} (h : tT K W (dB f) σ H Q) : tM K W f σ H (fun x H' => ∃ k, x = .bl k ∧ Q k H') := by
  obtain ⟨F, en, fp, O, S, h⟩ := h
  refine ⟨F, en, fp, O, S, ?_⟩
  unfold dB at h
  cases e : f en with
  | er c => rw [e] at h; exact h
  | no => rw [e] at h; exact h
  | ok t =>
    rw [e] at h
    have h' : FinB W σ H (asB t) Q := h
    intro v H' ⟨e1, fq, nd, fr, rt⟩
    unfold asB at h'
    split at h'
    · rename_i b
      exact ⟨b, rt.2, h' H' e1⟩
    · exact h'.elim
theorem st_val (ha : Snd X W e fa) (he : ∀ whole, isTrue e X.env whole = (do let v ← whole; standAt e.pos; holding [v] (truthy v)) := by intro _; rfl) : SndT X W e (dB fa) :=
  pt_wk (pt_val ha he) fun _ _ _ h => tb_of h
theorem st_cmp {op : CmpOp} {r : R2} {g : List Tr → Option Tr} (ho : OpR X (compareOp op) r) (cc : COk X.K (r2v r) g) (ha : Snd X W a fa) (hb : Snd X W b fb) (hm : behindInMarks op b = false) : SndT X W (.Compare a [op] [b] pos) (dB (dBin g fa fb)) :=
  pt_wk (pt_cmpR ho ha hb hm) fun _ _ _ h => tm_bin cc (tb_of h)
def dAndT (f g : En → Rs Bool) : En → Rs Bool := fun en => (f en).bind fun b => if b then g en else .ok false
def dOrT (f g : En → Rs Bool) : En → Rs Bool := fun en => (f en).bind fun b => if b then .ok true else g en
def dNotT (f : En → Rs Bool) : En → Rs Bool := fun en => (f en).bind fun b => .ok (!b)
variable {f g : En → Rs Bool}
theorem tt_and {K : PySem.W.Frag} {σ : L2.St} {H : Hp} {Q : Bool → Hp → Prop} (h : tT K W (dAndT f g) σ H Q) : tAnd (tT K W f) (tT K W g) σ H Q := by
  obtain ⟨F, en, fp, O, S, h⟩ := h
  refine ⟨F, en, fp, O, S, ?_⟩
  unfold dAndT at h
  cases e : f en with
  | er c => rw [e] at h; exact h
  | no => rw [e] at h; exact h
  | ok b =>
    rw [e] at h
    intro H' e1
    cases b with
    | false => exact h H' e1
    | true =>
      have h' : FinB W σ H (g en) Q := h
      refine ⟨F, en, fp, O, S.grow e1, ?_⟩
      cases q : g en with
      | er c => rw [q] at h'; exact fun H2 e2 => h' H2 (e1.trans e2)
      | no => rw [q] at h'; exact h'
      | ok b => rw [q] at h'; exact fun H2 e2 => h' H2 (e1.trans e2)
theorem tt_or {K : PySem.W.Frag} {σ : L2.St} {H : Hp} {Q : Bool → Hp → Prop} (h : tT K W (dOrT f g) σ H Q) : tOr (tT K W f) (tT K W g) σ H Q := by
  obtain ⟨F, en, fp, O, S, h⟩ := h
  refine ⟨F, en, fp, O, S, ?_⟩
  unfold dOrT at h
  cases e : f en with
  | er c => rw [e] at h; exact h
  | no => rw [e] at h; exact h
  | ok b =>
    rw [e] at h
    intro H' e1
    cases b with
    | true => exact h H' e1
    | false =>
      have h' : FinB W σ H (g en) Q := h
      refine ⟨F, en, fp, O, S.grow e1, ?_⟩
      cases q : g en with
      | er c => rw [q] at h'; exact fun H2 e2 => h' H2 (e1.trans e2)
      | no => rw [q] at h'; exact h'
      | ok b => rw [q] at h'; exact fun H2 e2 => h' H2 (e1.trans e2)
theorem tt_not {K : PySem.W.Frag} {σ : L2.St} {H : Hp} {Q : Bool → Hp → Prop} (h : tT K W (dNotT f) σ H Q) : tNot (tT K W f) σ H Q := by
  obtain ⟨F, en, fp, O, S, h⟩ := h
  refine ⟨F, en, fp, O, S, ?_⟩
  unfold dNotT at h
  cases e : f en with
  | er c => rw [e] at h; exact h
  | no => rw [e] at h; exact h
  | ok b => rw [e] at h; exact fun H' e1 => h H' e1
theorem sw_and1 (ha : SndT X W a f) : SndW X W (.BoolOp .And [a] pos) f := pw_and1 ha
theorem sw_or1 (ha : SndT X W a f) : SndW X W (.BoolOp .Or [a] pos) f := pw_or1 ha
theorem sw_and (ha : SndT X W a f) (hb : SndW X W (.BoolOp .And (b :: rest) pos) g) : SndW X W (.BoolOp .And (a :: b :: rest) pos) (dAndT f g) := pw_wk (pw_and ha hb) fun _ _ _ h => tt_and h
theorem sw_or (ha : SndT X W a f) (hb : SndW X W (.BoolOp .Or (b :: rest) pos) g) : SndW X W (.BoolOp .Or (a :: b :: rest) pos) (dOrT f g) := pw_wk (pw_or ha hb) fun _ _ _ h => tt_or h
theorem st_w (h : SndW X W e f) : SndT X W e f := h.pt
theorem st_not (ha : SndT X W a f) : SndT X W (.UnaryOp .Not a pos) (dNotT f) := pt_wk (pt_not ha) fun _ _ _ h => tt_not h
-- as values
def dAnd (fa fb : En → Rs Tr) : En → Rs Tr := fun en => (dB fa en).bind fun b => if b then fb en else .ok (.d (.bool false))
def dOr (fa fb : En → Rs Tr) : En → Rs Tr := fun en => (dB fa en).bind fun b => if b then .ok (.d (.bool true)) else fb en
def dNot (fa : En → Rs Tr) : En → Rs Tr := fun en => (dB fa en).bind fun b => .ok (.d (.bool (!b)))
theorem tm_andV {K : PySem.W.Frag} {σ : L2.St} {H : Hp} {Q : VK} (h : tM K W (dAnd fa fb) σ H Q) : tAndV (tM K W fa) (tM K W fb) σ H Q := by
  have h2 : tT K W (dB fa) σ H (fun b H1 => if b = true then tM K W fb σ H1 Q else Q (.bl false) H1) := by
    obtain ⟨F, en, fp, O, S, h⟩ := h
    refine ⟨F, en, fp, O, S, ?_⟩
    unfold dAnd at h
    cases e : dB fa en with
    | er c => rw [e] at h; exact h
    | no => rw [e] at h; exact h
    | ok b =>
      rw [e] at h
      intro H' e1
      cases b with
      | false => exact Fin.dat (x := .bool false) h e1 rfl
      | true => exact ⟨F, en, fp, O, S.grow e1, Fin.later h e1 fun _ q => q⟩
  exact tb_of h2
theorem tm_orV {K : PySem.W.Frag} {σ : L2.St} {H : Hp} {Q : VK} (h : tM K W (dOr fa fb) σ H Q) : tOrV (tM K W fa) (tM K W fb) σ H Q := by
  have h2 : tT K W (dB fa) σ H (fun b H1 => if b = true then Q (.bl true) H1 else tM K W fb σ H1 Q) := by
    obtain ⟨F, en, fp, O, S, h⟩ := h
    refine ⟨F, en, fp, O, S, ?_⟩
    unfold dOr at h
    cases e : dB fa en with
    | er c => rw [e] at h; exact h
    | no => rw [e] at h; exact h
    | ok b =>
      rw [e] at h
      intro H' e1
      cases b with
      | true => exact Fin.dat (x := .bool true) h e1 rfl
      | false => exact ⟨F, en, fp, O, S.grow e1, Fin.later h e1 fun _ q => q⟩
  exact tb_of h2
theorem tm_notV {K : PySem.W.Frag} {σ : L2.St} {H : Hp} {Q : VK} (h : tM K W (dNot fa) σ H Q) : tNotV (tM K W fa) σ H Q := by
  have h2 : tT K W (dB fa) σ H (fun b H1 => Q (.bl (!b)) H1) := by
    obtain ⟨F, en, fp, O, S, h⟩ := h
    refine ⟨F, en, fp, O, S, ?_⟩
    unfold dNot at h
    cases e : dB fa en with
    | er c => rw [e] at h; exact h
    | no => rw [e] at h; exact h
    | ok b =>
      rw [e] at h
      exact fun H' e1 => Fin.dat (x := .bool (!b)) h e1 rfl
  exact tb_of h2
theorem sn_one {op} (ha : Snd X W a fa) : Snd X W (.BoolOp op [a] pos) fa := pe_one ha
theorem sn_and (ha : Snd X W a fa) (hb : Snd X W (.BoolOp .And (b :: rest) pos) fb) : Snd X W (.BoolOp .And (a :: b :: rest) pos) (dAnd fa fb) := pe_wk (pe_and ha hb) fun _ _ _ h => tm_andV h
theorem sn_or (ha : Snd X W a fa) (hb : Snd X W (.BoolOp .Or (b :: rest) pos) fb) : Snd X W (.BoolOp .Or (a :: b :: rest) pos) (dOr fa fb) := pe_wk (pe_or ha hb) fun _ _ _ h => tm_orV h
theorem sn_not (ha : Snd X W a fa) : Snd X W (.UnaryOp .Not a pos) (dNot fa) := pe_wk (pe_not ha) fun _ _ _ h => tm_notV h
-- a < b < c, of ints
def asI : Tr → Rs Int
  | .d (.int i) => .ok i
  | _ => .no
def dI (f : En → Rs Tr) : En → Rs Int := fun en => (f en).bind asI
def dChain (p q : Int → Int → Bool) (fa fb fc : En → Rs Tr) : En → Rs Tr := fun en => (dI fa en).bind fun i => (dI fb en).bind fun j => if p i j then (dI fc en).bind fun k => .ok (.d (.bool (q j k))) else .ok (.d (.bool false))
theorem asI_ok {t : Tr} {i : Int} (h : asI t = .ok i) : t = .d (.int i) := by
  unfold asI at h
  split at h
  · cases h; rfl
  · cases h
theorem asI_er {t : Tr} {c : Str} (h : asI t = .er c) : False := by
  unfold asI at h
  split at h <;> cases h
theorem tm_int {K : PySem.W.Frag} {F : Hp} {en : En} {fp : Nat → List Addr} {O : Addr → Prop} {σ : L2.St} {H : Hp} {R : VK} {f : En → Rs Tr} (S : Stt K F en σ H fp O)
    (h : match dI f en with | .ok i => ∀ H', Exn H H' → R (.int i) H' | .er c => ∀ H', Exn H H' → W c σ H' | .no => False) : tM K W f σ H R := by
  refine ⟨F, en, fp, O, S, ?_⟩
  unfold dI at h
  cases e : f en with
  | er c => rw [e] at h; exact h
  | no => rw [e] at h; exact h
  | ok t =>
    rw [e] at h
    simp only [Rs.bind_ok'] at h
    intro v H' ⟨e1, fq, nd, fr, rt⟩
    cases q : asI t with
    | ok i =>
      rw [q] at h
      have ht := asI_ok q
      subst ht
      rw [show v = .int i from rt.2]
      exact h H' e1
    | er c => exact (asI_er q).elim
    | no => rw [q] at h; exact h.elim
theorem tm_chain {K : PySem.W.Frag} {p q : Int → Int → Bool} {σ : L2.St} {H : Hp} {Q : VK} (h : tM K W (dChain p q fa fb fc) σ H Q) : tChain (rI0 fun i j => .bl (p i j)) (rI0 fun i j => .bl (q i j)) (tM K W fa) (tM K W fb) (tM K W fc) σ H Q := by
  obtain ⟨F, en, fp, O, S, h⟩ := h
  unfold dChain at h
  refine tm_int S ?_
  cases ea : dI fa en with
  | er c => rw [ea] at h; exact h
  | no => rw [ea] at h; exact h
  | ok i =>
    rw [ea] at h
    simp only [Rs.bind_ok'] at h
    intro H1 e1
    refine tm_int (S.grow e1) ?_
    cases eb : dI fb en with
    | er c => rw [eb] at h; exact fun H2 e2 => h H2 (e1.trans e2)
    | no => rw [eb] at h; exact h
    | ok j =>
      rw [eb] at h
      simp only [Rs.bind_ok'] at h
      intro H2 e2
      refine ⟨i, j, rfl, rfl, p i j, rfl, ?_⟩
      cases hp : p i j with
      | false =>
        rw [hp] at h
        exact Fin.dat (x := .bool false) h (e1.trans e2) rfl
      | true =>
        rw [hp] at h
        simp only [if_true] at h ⊢
        refine tm_int ((S.grow e1).grow e2) ?_
        cases ec : dI fc en with
        | er c => rw [ec] at h; exact fun H3 e3 => h H3 ((e1.trans e2).trans e3)
        | no => rw [ec] at h; exact h
        | ok k =>
          rw [ec] at h
          exact fun H3 e3 => ⟨j, k, rfl, rfl, Fin.dat (x := .bool (q j k)) h ((e1.trans e2).trans e3) rfl⟩
theorem sn_chain {op op' : CmpOp} {p q : Int → Int → Bool} (ho : OpR X (compareOp op) (rI0 fun i j => .bl (p i j))) (ho' : OpR X (compareOp op') (rI0 fun i j => .bl (q i j))) (ha : Snd X W a fa) (hb : Snd X W b fb) (hc : Snd X W c fc)
    (hm : lastMarks [op, op'] [b, c] = false := by with_unfolding_all rfl) : Snd X W (.Compare a [op, op'] [b, c] pos) (dChain p q fa fb fc) := pe_wk (pe_chain ho ho' ha hb hc hm) fun _ _ _ h => tm_chain h
theorem st_chain {op op' : CmpOp} {p q : Int → Int → Bool} (ho : OpR X (compareOp op) (rI0 fun i j => .bl (p i j))) (ho' : OpR X (compareOp op') (rI0 fun i j => .bl (q i j))) (ha : Snd X W a fa) (hb : Snd X W b fb) (hc : Snd X W c fc)
    (hm : lastMarks [op, op'] [b, c] = false := by with_unfolding_all rfl) : SndT X W (.Compare a [op, op'] [b, c] pos) (dB (dChain p q fa fb fc)) := pt_wk (pt_chain ho ho' ha hb hc hm) fun _ _ _ h => tm_chain (tb_of h)

/-! ### displays, slices -/
theorem sn_tup {x1} (ha : SndA X W es fr) : Snd X W (.Tuple es x1 pos) (dPr gTup fr) := pe_wk (pe_tup ha) fun _ _ _ h => tm_pr c_tup h
theorem sn_lst (ha : SndA X W es fr) : Snd X W (.List es pos) (dPr gLst fr) := pe_wk (pe_lst ha) fun _ _ _ h => tm_pr c_lst h
theorem ta_un {K : PySem.W.Frag} {σ : L2.St} {H : Hp} {Q : List V → Hp → Prop} (h : tA K W (dCons fa dNil) σ H Q) : tM K W fa σ H (fun x H1 => Q [x] H1) := by
  obtain ⟨F, en, fp, O, S, h3⟩ := ta_cons h
  refine ⟨F, en, fp, O, S, ?_⟩
  cases ha : fa en with
  | er c => rw [ha] at h3; exact h3
  | no => rw [ha] at h3; exact h3
  | ok t => rw [ha] at h3; exact fun v H1 p => ta_nil (h3 v H1 p)
theorem ta_step {K : PySem.W.Frag} {σ : L2.St} {H : Hp} {Q : List V → Hp → Prop} {R : VK} (h : tA K W (dCons fa fr) σ H Q) (k : ∀ x H1, tA K W fr σ H1 (fun xs H2 => Q (x :: xs) H2) → R x H1) : tM K W fa σ H R := by
  obtain ⟨F, en, fp, O, S, h3⟩ := ta_cons h
  refine ⟨F, en, fp, O, S, ?_⟩
  cases ha : fa en with
  | er c => rw [ha] at h3; exact h3
  | no => rw [ha] at h3; exact h3
  | ok t => rw [ha] at h3; exact fun v H1 p => k v H1 (h3 v H1 p)
theorem slAll (X : Cx) : SlR X (rSlAll X.K) := SlR.or sl_list (SlR.or sl_tupA sl_str)
def dPart (o : Option (En → Rs Tr)) : En → Rs (Option Int) := fun en => match o with
  | none => .ok none
  | some f => (dI f en).bind fun i => .ok (some i)
def FinO (W : WW) (σ : L2.St) (H : Hp) (r : Rs (Option Int)) (Q : Option Int → Hp → Prop) : Prop :=
  match r with
  | .ok i => ∀ H', Exn H H' → Q i H'
  | .er c => ∀ H', Exn H H' → W c σ H'
  | .no => False
def tP (K : PySem.W.Frag) (W : WW) (o : Option (En → Rs Tr)) : TO := fun σ H Q => ∃ F en fp O, Stt K F en σ H fp O ∧ FinO W σ H (dPart o en) Q
abbrev SndO (X : Cx) (W : WW) (e : Option Expr) (f : Option (En → Rs Tr)) : Prop := PO X e (tP X.K W f)
theorem po_wk {X : Cx} {e : Option Expr} {t t' : TO} (h : PO X e t) (w : ∀ σ H Q, t' σ H Q → t σ H Q) : PO X e t' := ⟨fun pins s σ H Q I q => h.run pins s σ H Q I (w σ H Q q)⟩
theorem so_none : SndO X W none none := po_wk po_none fun σ H Q h => by
  obtain ⟨F, en, fp, O, S, h⟩ := h
  exact h H (Exn.refl _)
theorem so_some (ha : Snd X W a fa) : SndO X W (some a) (some fa) := po_wk (po_some ha) fun σ H Q h => by
  obtain ⟨F, en, fp, O, S, h⟩ := h
  refine tm_int S ?_
  unfold dPart at h
  cases e : dI fa en with
  | er c => simp only [e] at h; exact h
  | no => simp only [e] at h; exact h
  | ok i => simp only [e] at h; exact fun H' e1 => ⟨i, rfl, h H' e1⟩
def dSl (fa : En → Rs Tr) (lo hi : Option (En → Rs Tr)) : En → Rs Tr := fun en => (fa en).bind fun t => (dPart lo en).bind fun i => (dPart hi en).bind fun j => Rs.of (gCut t i j)
theorem tm_sl {K : PySem.W.Frag} {lo hi : Option (En → Rs Tr)} {σ : L2.St} {H : Hp} {Q : VK} (h : tM K W (dSl fa lo hi) σ H Q) : tSl (rSlAll K) (tM K W fa) (tP K W lo) (tP K W hi) σ H Q := by
  obtain ⟨F, en, fp, O, S, h⟩ := h
  refine ⟨F, en, fp, O, S, ?_⟩
  unfold dSl at h
  refine Fin.seq S h fun t v H1 fq _ e nd fr rt S1 hf => ?_
  refine ⟨F, en, fp, _, S1, ?_⟩
  cases q : dPart lo en with
  | er c => rw [q] at hf; exact fun H2 e2 => hf H2 (e.trans e2)
  | no => rw [q] at hf; exact hf
  | ok i =>
    rw [q] at hf
    simp only [Rs.bind_ok'] at hf
    intro H2 e2
    have S2 := S1.grow e2
    refine ⟨F, en, fp, _, S2, ?_⟩
    cases q2 : dPart hi en with
    | er c => rw [q2] at hf; exact fun H3 e3 => hf H3 ((e.trans e2).trans e3)
    | no => rw [q2] at hf; exact hf
    | ok j =>
      rw [q2] at hf
      simp only [Rs.bind_ok'] at hf
      intro H3 e3
      have S3 := S2.grow e3
      have e23 := e2.trans e3
      cases q3 : gCut t i j with
      | none => rw [q3] at hf; exact hf.elim
      | some t' =>
        rw [q3] at hf
        refine c_cut S3.wf nd (RT.mono (gh_mono (fun a o _ z => e23 a o z) fun a z => .inl z) e23 (Exn.refl _) t v fq rt) (List.Sublist.refl _) q3 fun v' H' f' e' nd' fr' rt' => ?_
        exact hf v' H' ⟨(e.trans e23).trans e', f', nd', fun a ha => (fr' a ha).elim (fr a) fun z => (e.trans e23).back z, rt'⟩
theorem sn_sl {lo hi : Option Expr} {fl fh : Option (En → Rs Tr)} (ha : Snd X W a fa) (hl : SndO X W lo fl) (hh : SndO X W hi fh) : Snd X W (.Subscript a (.Slice lo hi none p2) pos) (dSl fa fl fh) :=
  pe_wk (pe_slice (slAll X) ha hl hh) fun _ _ _ h => tm_sl h

/-! ### built-ins: h by pe_callB, pe_callTy -/
theorem sn_bi {r : List V → Hp → VK → Prop} {g : List Tr → Option Tr} (h : PE X e (tCB r (tA X.K W fr))) (cc : COk X.K r g) : Snd X W e (dPr g fr) := pe_wk h fun _ _ _ q => tm_pr cc q
end
section
variable {K : PySem.W.Frag}
def gLen (ts : List Tr) : Option Tr := match ts with
  | [.d (.str z)] => if z.length ≤ 100000 then some (.d (.int (z.length : Nat))) else none
  | [t] => (kidsS t).map fun k => .d (.int (k.2.length : Nat))
  | _ => none
theorem c_len : COk K (fun xs H Q => ∃ x n, xs = [x] ∧ LenV K x H n ∧ Q (.int n) H) gLen := by
  intro F O H ts vs fq t Q wf nd fr rt hg out
  unfold gLen at hg
  split at hg
  · rename_i z
    obtain ⟨v, rfl, rfl, rfl⟩ := rts1 rt
    split at hg
    · rename_i hl
      cases hg
      exact ⟨_, z.length, rfl, ⟨sz _ hl, rfl⟩, out _ H [] (Exn.refl _) List.nodup_nil (fun _ h => by cases h) ⟨rfl, rfl⟩⟩
    · cases hg
  · rename_i a _
    obtain ⟨v, rfl, r1⟩ := rts1 rt
    obtain ⟨k, hk, rfl⟩ := Option.map_eq_some_iff.mp hg
    obtain ⟨b, ks⟩ := k
    obtain ⟨p, vs, f1, rfl, h1, h2, h3, h4⟩ := RT.kidsS wf r1 hk
    refine ⟨_, ks.length, rfl, ?_, out _ H [] (Exn.refl _) List.nodup_nil (fun _ h => by cases h) ⟨rfl, rfl⟩⟩
    cases b with
    | true => exact .inl ⟨vs, h1 rfl, h3.length.symm⟩
    | false => exact .inr ⟨vs, h2 rfl, h3.length.symm⟩
  · cases hg
def gMin2 : List Tr → Option Tr := gD (gI (fun _ _ => true) fun i j => .int (if j < i then j else i))
def gMax2 : List Tr → Option Tr := gD (gI (fun _ _ => true) fun i j => .int (if j > i then j else i))
theorem c_min2 : COk K (fun xs H Q => ∃ i j, xs = [.int i, .int j] ∧ Q (.int (if j < i then j else i)) H) gMin2 := COk.ofD fun xs z vs H Q hg hr q => by
  obtain ⟨i, j, rfl, c, rfl⟩ := gI_some hg
  obtain ⟨v, w, rfl, h1, h2⟩ := rps2 hr
  rw [show v = .int i from h1, show w = .int j from h2]
  exact ⟨i, j, rfl, q _ rfl⟩
theorem c_max2 : COk K (fun xs H Q => ∃ i j, xs = [.int i, .int j] ∧ Q (.int (if j > i then j else i)) H) gMax2 := COk.ofD fun xs z vs H Q hg hr q => by
  obtain ⟨i, j, rfl, c, rfl⟩ := gI_some hg
  obtain ⟨v, w, rfl, h1, h2⟩ := rps2 hr
  rw [show v = .int i from h1, show w = .int j from h2]
  exact ⟨i, j, rfl, q _ rfl⟩
-- ints, bools of data
def intsD : List PyData → Option (List Int)
  | [] => some []
  | .int i :: ds => (intsD ds).map fun xs => i :: xs
  | _ :: _ => none
def boolsD : List PyData → Option (List Bool)
  | [] => some []
  | .bool i :: ds => (boolsD ds).map fun xs => i :: xs
  | _ :: _ => none
def strsD : List PyData → Option (List Str)
  | [] => some []
  | .str i :: ds => (strsD ds).map fun xs => i :: xs
  | _ :: _ => none
theorem intsD_rps {H : Hp} : ∀ {ds : List PyData} {ns : List Int} {vs : List V}, intsD ds = some ns → Rps H ds vs → vs = ns.map V.int
  | [], ns, vs, h, r => by cases h; exact r
  | .int i :: ds, ns, vs, h, ⟨v, vs', e, h1, h2⟩ => by
    have h' : (intsD ds).map (fun xs => i :: xs) = some ns := h
    obtain ⟨xs, hx, rfl⟩ := Option.map_eq_some_iff.mp h'
    rw [e, show v = .int i from h1, intsD_rps hx h2]
    rfl
  | .none :: _, _, _, h, _ => by cases h
  | .bool _ :: _, _, _, h, _ => by cases h
  | .str _ :: _, _, _, h, _ => by cases h
  | .list _ :: _, _, _, h, _ => by cases h
  | .tuple _ :: _, _, _, h, _ => by cases h
  | .dict _ :: _, _, _, h, _ => by cases h
theorem boolsD_rps {H : Hp} : ∀ {ds : List PyData} {ns : List Bool} {vs : List V}, boolsD ds = some ns → Rps H ds vs → vs = ns.map V.bl
  | [], ns, vs, h, r => by cases h; exact r
  | .bool i :: ds, ns, vs, h, ⟨v, vs', e, h1, h2⟩ => by
    have h' : (boolsD ds).map (fun xs => i :: xs) = some ns := h
    obtain ⟨xs, hx, rfl⟩ := Option.map_eq_some_iff.mp h'
    rw [e, show v = .bl i from h1, boolsD_rps hx h2]
    rfl
  | .none :: _, _, _, h, _ => by cases h
  | .int _ :: _, _, _, h, _ => by cases h
  | .str _ :: _, _, _, h, _ => by cases h
  | .list _ :: _, _, _, h, _ => by cases h
  | .tuple _ :: _, _, _, h, _ => by cases h
  | .dict _ :: _, _, _, h, _ => by cases h
theorem strsD_rps {H : Hp} : ∀ {ds : List PyData} {ns : List Str} {vs : List V}, strsD ds = some ns → Rps H ds vs → vs = ns.map V.str
  | [], ns, vs, h, r => by cases h; exact r
  | .str i :: ds, ns, vs, h, ⟨v, vs', e, h1, h2⟩ => by
    have h' : (strsD ds).map (fun xs => i :: xs) = some ns := h
    obtain ⟨xs, hx, rfl⟩ := Option.map_eq_some_iff.mp h'
    rw [e, show v = .str i from h1, strsD_rps hx h2]
    rfl
  | .none :: _, _, _, h, _ => by cases h
  | .int _ :: _, _, _, h, _ => by cases h
  | .bool _ :: _, _, _, h, _ => by cases h
  | .list _ :: _, _, _, h, _ => by cases h
  | .tuple _ :: _, _, _, h, _ => by cases h
  | .dict _ :: _, _, _, h, _ => by cases h
@[simp] theorem intsD_map (ns : List Int) : intsD (ns.map PyData.int) = some ns := by
  induction ns with
  | nil => rfl
  | cons i r ih => simp only [List.map_cons, intsD, ih]; rfl
@[simp] theorem boolsD_map (ns : List Bool) : boolsD (ns.map PyData.bool) = some ns := by
  induction ns with
  | nil => rfl
  | cons i r ih => simp only [List.map_cons, boolsD, ih]; rfl
@[simp] theorem strsD_map (ns : List Str) : strsD (ns.map PyData.str) = some ns := by
  induction ns with
  | nil => rfl
  | cons i r ih => simp only [List.map_cons, strsD, ih]; rfl
-- sum of a list or a tuple
def gSumD : List PyData → Option PyData
  | [.list ds] => (intsD ds).map fun ns => .int ns.sum
  | [.tuple ds] => (intsD ds).map fun ns => .int ns.sum
  | _ => none
open PySem.Spec PySem.Calls PyProof.Rows in
theorem sumT_raw {prog : Program} {w : World} {A : Around} {E : Value → Shared → Prop} {s : Shared} {l : Addr} {its : List Value} {ns : List Int} {Q : Value → Shared → Prop} (hh : A.handled = none) (hl : s.heap.IsTuple l its.toArray) (hi : IntsAre its ns)
    (h : ∀ h' tk t', (∀ b o, s.heap.get? b = some o → h'.get? b = some o) → Q (.int ns.sum t') { s with heap := h', toks := tk }) : wpAny (model prog w) A (call (.builtin "sum") [.ref l]) Q E s := by
  obtain ⟨xs, e⟩ := hi.allInts.items
  have hn : numsOf (intItems xs).toList = ns := by rw [← e]; exact hi.numsOf
  rw [nums_intItems] at hn
  rw [e] at hl
  refine PySem.W.ktm_sumG hh hl fun h' tk t' hk => ?_
  have h1 := h h' tk t' hk
  rw [preSum_eq, List.take_of_length_le (by simp), hn]
  exact h1
def rSumA (K : PySem.W.Frag) : List V → Hp → VK → Prop := fun vs H Q => rSum K vs H Q ∨ ∃ (a : Addr) (ns : List Int), vs = [V.ref a] ∧ SqT K H a (ns.map V.int) ∧ Q (.int ns.sum) H
theorem call_sumA {X : Cx} (hc : X.calm = true) : CallR X (.builtin "sum") (rSumA X.K) := by
  refine CallR.or (cr_sum hc) ?_
  intro pins s σ H vs us Q I r h
  obtain ⟨a, ns, rfl, hs, q⟩ := h
  obtain ⟨its, rv, hl, _⟩ := I.tuple hs
  rw [Vals.ref1 r]
  exact sumT_raw (I.ok.hd hc) hl rv.ints fun h' tk t' hk => ⟨.int _, H, I.kept hk, ⟨_, rfl⟩, q⟩
theorem c_sum : COk K (rSumA K) (gD gSumD) := COk.ofD fun xs z vs H Q hg hr q => by
  unfold gSumD at hg
  split at hg
  · rename_i ds
    obtain ⟨ns, hn, rfl⟩ := Option.map_eq_some_iff.mp hg
    obtain ⟨v, rfl, p, us, rfl, h2, h3⟩ := rps1 hr
    rw [intsD_rps hn h3] at h2
    exact .inl ⟨p, ns, rfl, .inl (.inl h2), q _ rfl⟩
  · rename_i ds
    obtain ⟨ns, hn, rfl⟩ := Option.map_eq_some_iff.mp hg
    obtain ⟨v, rfl, p, us, rfl, h2, h3⟩ := rps1 hr
    rw [intsD_rps hn h3] at h2
    exact .inr ⟨p, ns, rfl, .inl (.inl h2), q _ rfl⟩
  · cases hg
def gAllD : List PyData → Option PyData
  | [.list ds] => (boolsD ds).map fun ns => .bool (ns.all id)
  | _ => none
theorem c_all : COk K (rAll K) (gD gAllD) := COk.ofD fun xs z vs H Q hg hr q => by
  unfold gAllD at hg
  split at hg
  · rename_i ds
    obtain ⟨ns, hn, rfl⟩ := Option.map_eq_some_iff.mp hg
    obtain ⟨v, rfl, p, us, rfl, h2, h3⟩ := rps1 hr
    rw [boolsD_rps hn h3] at h2
    exact ⟨p, ns, rfl, .inl (.inl h2), q _ rfl⟩
  · cases hg
-- least, greatest
def gMinD : List PyData → Option PyData
  | [.list ds] => (intsD ds).bind fun ns => ns.min?.map .int
  | _ => none
def gMaxD : List PyData → Option PyData
  | [.list ds] => (intsD ds).bind fun ns => ns.max?.map .int
  | _ => none
theorem min_one {ns : List Int} {a b : Int} (h1 : ns.min? = some a) (h2 : b ∈ ns) (h3 : ∀ y, y ∈ ns → b ≤ y) : b = a := by
  obtain ⟨q1, q2⟩ := List.min?_eq_some_iff.mp h1
  have := h3 a q1
  have := q2 b h2
  omega
theorem max_one {ns : List Int} {a b : Int} (h1 : ns.max? = some a) (h2 : b ∈ ns) (h3 : ∀ y, y ∈ ns → y ≤ b) : b = a := by
  obtain ⟨q1, q2⟩ := List.max?_eq_some_iff.mp h1
  have := h3 a q1
  have := q2 b h2
  omega
theorem c_min : COk K (rMin K) (gD gMinD) := COk.ofD fun xs z vs H Q hg hr q => by
  unfold gMinD at hg
  split at hg
  · rename_i ds
    obtain ⟨ns, hn, hg⟩ := Option.bind_eq_some_iff.mp hg
    obtain ⟨m, hm, rfl⟩ := Option.map_eq_some_iff.mp hg
    obtain ⟨v, rfl, p, us, rfl, h2, h3⟩ := rps1 hr
    rw [intsD_rps hn h3] at h2
    refine ⟨p, ns, rfl, .inl (.inl h2), ?_, fun b h1 h2 => ?_⟩
    · cases ns with
      | nil => cases hm
      | cons _ _ => exact Nat.succ_pos _
    · rw [min_one hm h1 h2]; exact q _ rfl
  · cases hg
theorem c_max : COk K (rMax K) (gD gMaxD) := COk.ofD fun xs z vs H Q hg hr q => by
  unfold gMaxD at hg
  split at hg
  · rename_i ds
    obtain ⟨ns, hn, hg⟩ := Option.bind_eq_some_iff.mp hg
    obtain ⟨m, hm, rfl⟩ := Option.map_eq_some_iff.mp hg
    obtain ⟨v, rfl, p, us, rfl, h2, h3⟩ := rps1 hr
    rw [intsD_rps hn h3] at h2
    refine ⟨p, ns, rfl, .inl (.inl h2), ?_, fun b h1 h2 => ?_⟩
    · cases ns with
      | nil => cases hm
      | cons _ _ => exact Nat.succ_pos _
    · rw [max_one hm h1 h2]; exact q _ rfl
  · cases hg
-- int, str
def gIntD : List PyData → Option PyData
  | [.int i] => some (.int i)
  | [.bool k] => some (.int (if k then 1 else 0))
  | [.str z] => if z.length ≤ 640 then (PySem.intText? z).map .int else none
  | _ => none
theorem c_int : COk K (fun xs H Q => ((∃ i, xs = [.int i] ∧ Q (.int i) H) ∨ ∃ k, xs = [.bl k] ∧ Q (.int (if k then 1 else 0)) H) ∨ ∃ a n, xs = [.str a] ∧ PySem.intText? a = some n ∧ a.length ≤ 640 ∧ Q (.int n) H) (gD gIntD) := COk.ofD fun xs z vs H Q hg hr q => by
  unfold gIntD at hg
  split at hg
  · cases hg
    obtain ⟨v, rfl, h1⟩ := rps1 hr
    exact .inl (.inl ⟨_, by rw [show v = _ from h1], q _ rfl⟩)
  · cases hg
    obtain ⟨v, rfl, h1⟩ := rps1 hr
    exact .inl (.inr ⟨_, by rw [show v = _ from h1], q _ rfl⟩)
  · split at hg
    · rename_i hl
      obtain ⟨n, hn, rfl⟩ := Option.map_eq_some_iff.mp hg
      obtain ⟨v, rfl, h1⟩ := rps1 hr
      exact .inr ⟨_, n, by rw [show v = _ from h1], hn, hl, q _ rfl⟩
    · cases hg
  · cases hg
theorem call_intA {X : Cx} : CallR X (.type "int") (fun xs H Q => ((∃ i, xs = [.int i] ∧ Q (.int i) H) ∨ ∃ k, xs = [.bl k] ∧ Q (.int (if k then 1 else 0)) H) ∨ ∃ a n, xs = [.str a] ∧ PySem.intText? a = some n ∧ a.length ≤ 640 ∧ Q (.int n) H) := CallR.or call_int1 call_int_str
def gStrD : List PyData → Option PyData
  | [.int i] => if i.natAbs.log2 < 1920 then some (.str (toString i)) else none
  | _ => none
theorem c_str : COk K (fun xs H Q => ∃ i : Int, xs = [.int i] ∧ i.natAbs.log2 < 1920 ∧ Q (.str (toString i)) H) (gD gStrD) := COk.ofD fun xs z vs H Q hg hr q => by
  unfold gStrD at hg
  split at hg
  · split at hg
    · rename_i hl
      cases hg
      obtain ⟨v, rfl, h1⟩ := rps1 hr
      exact ⟨_, by rw [show v = _ from h1], hl, q _ rfl⟩
    · cases hg
  · cases hg
-- list, tuple
def gList : List Tr → Option Tr
  | [t] => (kidsS t).map fun k => .ol k.2
  | _ => none
def gTuple : List Tr → Option Tr
  | [t] => (kidsS t).map fun k => mkTp k.2
  | _ => none
theorem c_list : COk K (fun xs H Q => ∃ p ys, xs = [.ref p] ∧ (SqL K H p ys ∨ SqT K H p ys) ∧ ∀ l, H l = none → Q (.ref l) (upd H l (.lst ys))) gList := by
  intro F O H ts vs fq t Q wf nd fr rt hg out
  unfold gList at hg
  split at hg
  · obtain ⟨v, rfl, r1⟩ := rts1 rt
    obtain ⟨⟨b, ks⟩, hk, rfl⟩ := Option.map_eq_some_iff.mp hg
    obtain ⟨p, vs, f1, rfl, h1, h2, h3, h4⟩ := RT.kidsS wf r1 hk
    refine ⟨p, vs, rfl, ?_, fun l hl => out.lst wf nd h4 h3 hl⟩
    cases b with
    | true => exact .inl (h1 rfl)
    | false => exact .inr (h2 rfl)
  · cases hg
theorem c_tuple : COk K (fun xs H Q => ∃ p ys, xs = [.ref p] ∧ ((SqL K H p ys ∧ ∀ l, H l = none → Q (.ref l) (upd H l (.tup ys))) ∨ (SqT K H p ys ∧ Q (.ref p) H))) gTuple := by
  intro F O H ts vs fq t Q wf nd fr rt hg out
  unfold gTuple at hg
  split at hg
  · rename_i a
    obtain ⟨v, rfl, r1⟩ := rts1 rt
    obtain ⟨⟨b, ks⟩, hk, rfl⟩ := Option.map_eq_some_iff.mp hg
    cases b with
    | true =>
      obtain ⟨p, vs, f1, rfl, h1, h2, h3, h4⟩ := RT.kidsS wf r1 hk
      exact ⟨p, vs, rfl, .inl ⟨h1 rfl, fun l hl => out.tup wf nd h4 h3 hl⟩⟩
    | false =>
      have hk' : kids a = some (false, ks) := by
        cases a <;> first | exact hk | cases hk
      obtain ⟨p, vs, f1, rfl, h1, h2, h3, h4⟩ := RT.kids wf r1 hk'
      exact ⟨p, vs, rfl, .inr ⟨.inl (.inl (h2 rfl)), out.part nd h4 (RT.mkTp h3 (wf.tup (h2 rfl)))⟩⟩
  · cases hg

/-! ### isinstance(x, T), T a built-in class -/
def tyOf : Tr → Option String
  | .d .none => some "NoneType"
  | .d (.bool _) => some "bool"
  | .d (.int _) => some "int"
  | .d (.str _) => some "str"
  | .s _ => none
  | t => (kids t).map fun k => if k.1 then "list" else "tuple"
def gIsi (T : String) : List Tr → Option Tr
  | [t] => (tyOf t).bind fun a => (kitB a T).map fun b => .d (.bool b)
  | _ => none
theorem c_isi (T : String) : COk K (fun xs H Q => ∃ x, xs = [x] ∧ rIsi K [x, .ty T] H Q) (gIsi T) := by
  intro F O H ts vs fq t Q wf nd fr rt hg out
  unfold gIsi at hg
  split at hg
  · rename_i a
    obtain ⟨v, rfl, r1⟩ := rts1 rt
    obtain ⟨A, hA, hg⟩ := Option.bind_eq_some_iff.mp hg
    obtain ⟨b, hb, rfl⟩ := Option.map_eq_some_iff.mp hg
    have fin : Q (.bl b) H := out _ H [] (Exn.refl _) List.nodup_nil (fun _ h => by cases h) ⟨rfl, rfl⟩
    refine ⟨v, rfl, v, .ty T, .type A, .type T, b, rfl, .ty T, ?_, kit_ty hb, fin⟩
    unfold tyOf at hA
    split at hA
    · cases hA; rw [show v = .non from r1.2]; exact .base .non
    · cases hA; rw [show v = .bl _ from r1.2]; exact .base (.bl _)
    · cases hA; rw [show v = .int _ from r1.2]; exact .base (.int _)
    · cases hA; rw [show v = .str _ from r1.2]; exact .base (.str _)
    · cases hA
    · obtain ⟨⟨k, ks⟩, hk, rfl⟩ := Option.map_eq_some_iff.mp hA
      obtain ⟨p, vs, f1, rfl, h1, h2, h3, h4⟩ := RT.kids wf r1 hk
      cases k with
      | true => exact .base (.lst (h1 rfl))
      | false => exact .base (.tup (h2 rfl))
  · cases hg
end
section
variable {X : Cx} {W : WW} {e a : Expr} {fa : En → Rs Tr} {pos : Pos}
theorem sn_isi {T : String} {x : Str} {p q : Pos} (hg : Gl X "isinstance") (hm : X.mg "isinstance" = none) (hT : PE X (.Name x q) (tC (.ty T))) (ha : Snd X W a fa)
    (h1 : starEach (a :: [.Name x q]) X.env = (false, eval a X.env) :: starEach [.Name x q] X.env := by rfl) (h2 : starEach (.Name x q :: []) X.env = (false, eval (.Name x q) X.env) :: starEach [] X.env := by rfl) (hpl : (backTo pos (starEach [.Name x q] X.env)).any (·.1) = false := by rfl) :
    Snd X W (.Call (.Name "isinstance" p) [a, .Name x q] [] pos) (dUn (gIsi T) fa) :=
  pe_wk (pe_callB call_isi hg hm PyProof.Rows.boot_isinstance (pa_cons ha (pa_cons hT pa_nil h2) h1) (by decide) (by decide) h1 hpl) fun σ H Q h => by
    have h3 := tm_pr (c_isi T) h
    refine ta_step h3 fun x H1 h4 => ?_
    have h5 := ta_nil h4
    obtain ⟨y, e1, q⟩ := h5
    cases e1
    exact q
end
end RP
namespace RP
open PySem L2

section
variable {K : PySem.W.Frag} {W : WW} {F H H' H1 G G' : Hp} {en : En} {σ : L2.St} {fp : Nat → List Addr} {O O' : Addr → Prop} {t : Tr} {v : V}

/-! ### freezing what nobody else holds -/
mutual
theorem RT.freeze (g : Exn G G') : ∀ (t : Tr) (v : V) (f : List Addr) (x : PyData), (∀ a ∈ f, ∀ o, H a = some o → G' a = some o) → clean t = true → data t = some x → RT K G H F t v f → Rp G' x v
  | .d y, _, _, x, _, _, q, ⟨_, e2⟩ => by cases q; exact Rp.mono g _ _ e2
  | .e _, _, _, _, _, c, _, _ => by cases c
  | .v _, _, _, _, _, c, _, _ => by cases c
  | .s _, _, _, _, _, c, _, _ => by cases c
  | .dt _, _, _, _, _, c, _, _ => by cases c
  | .ol ts, _, _, x, k, c, q, ⟨p, vs, fps, e1, e2, e3, e4⟩ => by
    have q' : (datas ts).map PyData.list = some x := q
    obtain ⟨ds, hd, rfl⟩ := Option.map_eq_some_iff.mp q'
    subst e2
    exact ⟨p, vs, e1, k p List.mem_cons_self _ e3, RTs.freeze g ts vs fps ds (fun a ha => k a (List.mem_cons_of_mem _ ha)) c hd e4⟩
  | .tp ts, _, f, x, k, c, q, ⟨p, vs, e1, e2, e3⟩ => by
    have q' : (datas ts).map PyData.tuple = some x := q
    obtain ⟨ds, hd, rfl⟩ := Option.map_eq_some_iff.mp q'
    exact ⟨p, vs, e1, g _ _ e2, RTs.freeze g ts vs f ds k c hd e3⟩
theorem RTs.freeze (g : Exn G G') : ∀ (ts : List Tr) (vs : List V) (f : List Addr) (xs : List PyData), (∀ a ∈ f, ∀ o, H a = some o → G' a = some o) → cleans ts = true → datas ts = some xs → RTs K G H F ts vs f → Rps G' xs vs
  | [], _, _, _, _, _, q, ⟨e1, _⟩ => by cases q; exact e1
  | t :: ts, _, _, xs, k, c, q, ⟨v, vs', f1, f2, e1, e2, e3, e4⟩ => by
    have q' : ((RP.data t).bind fun d => (RP.datas ts).map fun ds => d :: ds) = some xs := q
    obtain ⟨x, hx, q2⟩ := Option.bind_eq_some_iff.mp q'
    obtain ⟨ys, hy, rfl⟩ := Option.map_eq_some_iff.mp q2
    have c' : (clean t && cleans ts) = true := c
    rw [Bool.and_eq_true] at c'
    subst e2
    exact ⟨v, vs', e1, RT.freeze g t v f1 x (fun a ha => k a (List.mem_append_left _ ha)) c'.1 hx e3, RTs.freeze g ts vs' f2 ys (fun a ha => k a (List.mem_append_right _ ha)) c'.2 hy e4⟩
end
-- at an expression's end: what was in the making is let go, and frozen
theorem RT.letgo {fq : List Addr} {x : PyData} (wf : Wf F (fun a => O a ∨ a ∈ fq) H) (fr : ∀ a ∈ fq, ¬ O a) (c : clean t = true) (d : RP.data t = some x) (r : RT K (gh F (fun a => O a ∨ a ∈ fq) H) H F t v fq) : Rp (gh F O H) x v :=
  RT.freeze (gh_mono (fun _ _ _ q => q) fun a q => .inl (.inl q)) t v fq x (fun a ha o e => gh_new e (fr a ha) (wf.nw a (.inr ha))) c d r

/-! ### what is walked -/
def chars (z : Str) : List Tr := z.cps.toList.map fun c => .d (.str ⟨#[c]⟩)
def srcItems (m : Bool) (t : Tr) : Option (List Tr) := match t with
  | .d (.str z) => some (chars z)
  | .s ns => some (ns.map fun i => .d (.int i))
  | .e x => (kids (.e x)).map (·.2)
  | .v x => if m then (kids (.v x)).map (·.2) else none
  | t => if clean t then (data t).bind fun x => (kids (.d x)).map (·.2) else none
-- J walks its, whatever else happens (m: as long as the heap only grows)
def Itr' (K : PySem.W.Frag) (F : Hp) (O1 : Addr → Prop) (H1 : Hp) (m : Bool) (J : It) (its : List Tr) : Prop :=
  ∀ (i : Nat) (O2 : Addr → Prop) (H2 : Hp), Wf F O2 H2 → Exn (gh F O1 H1) (gh F O2 H2) → (m = true → Exn H1 H2) →
    (i < its.length → J.go i H2) ∧ (∀ t, its[i]? = some t → ∀ x H3, J.yld i H2 x H3 → Exn H2 H3 ∧ RT K (gh F O2 H3) H3 F t x [] ∧ (m = false → noV t = true)) ∧ (its.length ≤ i → J.stop i H2)
def tI (K : PySem.W.Frag) (W : WW) (m : Bool) (f : En → Rs (List Tr)) : TI := fun σ H R => ∃ F en fp O, Stt K F en σ H fp O ∧ match f en with
  | .ok its => ∀ J H1, Exn H H1 → Itr' K F O H1 m J its → R J H1
  | .er c => ∀ H', Exn H H' → W c σ H'
  | .no => False
abbrev SndI (X : Cx) (W : WW) (m : Bool) (tg e : Expr) (f : En → Rs (List Tr)) : Prop := PI X tg e (tI X.K W m f)
theorem pi_wk {X : Cx} {tg e : Expr} {t t' : TI} (h : PI X tg e t) (w : ∀ σ H R, t' σ H R → t σ H R) : PI X tg e t' := ⟨fun pins s σ H R I q => h.run pins s σ H R I (w σ H R q)⟩
-- a list or a tuple that stands frozen (or, m, just stands)
theorem noV_kids {x : PyData} {b : Bool} {ts : List Tr} (h : kids (.d x) = some (b, ts)) : ∀ t ∈ ts, noV t = true := by
  cases x with
  | list ds => cases h; intro t ht; obtain ⟨d, _, rfl⟩ := List.mem_map.mp ht; rfl
  | tuple ds => cases h; intro t ht; obtain ⟨d, _, rfl⟩ := List.mem_map.mp ht; rfl
  | _ => cases h
theorem noV_mkE (x : PyData) : noV (mkE x) = true := by
  unfold mkE; split <;> rfl
theorem noV_kidsE {x : PyData} {b : Bool} {ts : List Tr} (h : kids (.e x) = some (b, ts)) : ∀ t ∈ ts, noV t = true := by
  cases x with
  | list ds => cases h; intro t ht; obtain ⟨d, _, rfl⟩ := List.mem_map.mp ht; exact noV_mkE d
  | tuple ds => cases h; intro t ht; obtain ⟨d, _, rfl⟩ := List.mem_map.mp ht; exact noV_mkE d
  | _ => cases h
theorem itr_seq {a : Addr} {b : Bool} {its : List Tr} {m : Bool}
    (h : ∀ (O2 : Addr → Prop) (H2 : Hp), Wf F O2 H2 → Exn (gh F O H) (gh F O2 H2) → (m = true → Exn H H2) → ∃ vs, (b = true → SqL K H2 a vs) ∧ (b = false → SqT K H2 a vs) ∧ RTs K (gh F O2 H2) H2 F its vs [])
    (nv : m = false → ∀ t ∈ its, noV t = true) : Itr' K F O H m (if b then Itl K a else Itt K a) its := by
  intro i O2 H2 wf g mm
  obtain ⟨vs, h1, h2, h3⟩ := h O2 H2 wf g mm
  have hl := h3.length
  have kid : ∀ t, its[i]? = some t → ∀ x, vs[i]? = some x → RT K (gh F O2 H2) H2 F t x [] := fun t ht x hx => by
    obtain ⟨y, f, e1, e2, e3⟩ := RTs.get h3 ht
    rw [hx] at e1; cases e1
    cases e2
    exact e3
  cases b with
  | true =>
    refine ⟨fun hi => ⟨vs, vs[i]'(by omega), h1 rfl, List.getElem?_eq_getElem (by omega)⟩, fun t ht x H3 y => ?_, fun hi => ⟨vs, h1 rfl, by omega⟩⟩
    obtain ⟨e, y⟩ := y
    subst e
    exact ⟨Exn.refl _, kid t ht x (y vs (h1 rfl)), fun q => nv q t (List.mem_of_getElem? ht)⟩
  | false =>
    refine ⟨fun hi => ⟨vs, vs[i]'(by omega), h2 rfl, List.getElem?_eq_getElem (by omega)⟩, fun t ht x H3 y => ?_, fun hi => ⟨vs, h2 rfl, by omega⟩⟩
    obtain ⟨e, y⟩ := y
    subst e
    exact ⟨Exn.refl _, kid t ht x (y vs (h2 rfl)), fun q => nv q t (List.mem_of_getElem? ht)⟩
theorem itr_str {z : Str} {m : Bool} : Itr' K F O H m (Its z) (chars z) := by
  intro i O2 H2 wf g mm
  have hl : (chars z).length = z.cps.size := by unfold chars; simp
  refine ⟨fun hi => by show i < z.cps.size; omega, fun t ht x H3 y => ?_, fun hi => by show z.cps.size ≤ i; omega⟩
  obtain ⟨e, c, hc, e2⟩ := y
  subst e e2
  unfold chars at ht
  rw [List.getElem?_map, Array.getElem?_toList, hc] at ht
  cases ht
  exact ⟨Exn.refl _, ⟨rfl, rfl⟩, fun _ => rfl⟩
theorem itr_rng {lo : Int} {n : Nat} {m : Bool} : Itr' K F O H m (L2.Itr lo n) ((List.range n).map fun i => .d (.int (lo + (i : Nat)))) := by
  intro i O2 H2 wf g mm
  refine ⟨fun hi => by show i < n; simpa using hi, fun t ht x H3 y => ?_, fun hi => by show n ≤ i; simpa using hi⟩
  obtain ⟨e, e2⟩ := y
  subst e e2
  rw [List.getElem?_map] at ht
  obtain ⟨j, hj, rfl⟩ := Option.map_eq_some_iff.mp ht
  obtain ⟨h1, h2⟩ := List.getElem?_eq_some_iff.mp hj
  rw [List.getElem_range] at h2
  subst h2
  exact ⟨Exn.refl _, ⟨rfl, rfl⟩, fun _ => rfl⟩
-- a list, or a tuple
def kindD : PyData → Option Bool
  | .list _ => some true
  | .tuple _ => some false
  | _ => none
def kindT : Tr → Option Bool
  | .s _ => some true
  | .d x => kindD x
  | .e x => kindD x
  | .v x => kindD x
  | .ol _ => some true
  | .tp _ => some false
  | .dt _ => none
theorem kind_kids {x : PyData} {b : Bool} {ts : List Tr} (h : kids (.d x) = some (b, ts)) : kindD x = some b := by
  cases x <;> cases h <;> rfl
theorem kind_kidsE {x : PyData} {b : Bool} {ts : List Tr} (h : kids (.e x) = some (b, ts)) : kindD x = some b := by
  cases x <;> cases h <;> rfl
theorem kind_kidsV {x : PyData} {b : Bool} {ts : List Tr} (h : kids (.v x) = some (b, ts)) : kindD x = some b := by
  cases x <;> cases h <;> rfl
theorem kind_data {t : Tr} {x : PyData} (h : data t = some x) : kindT t = kindD x := by
  cases t with
  | d y => cases h; rfl
  | e y => cases h; rfl
  | v y => cases h; rfl
  | s _ => cases h
  | dt _ => cases h
  | ol ts =>
    have h' : (datas ts).map PyData.list = some x := h
    obtain ⟨ds, _, rfl⟩ := Option.map_eq_some_iff.mp h'
    rfl
  | tp ts =>
    have h' : (datas ts).map PyData.tuple = some x := h
    obtain ⟨ds, _, rfl⟩ := Option.map_eq_some_iff.mp h'
    rfl
-- from a source's tree to its items, at any later time
def SeqA (K : PySem.W.Frag) (F : Hp) (O : Addr → Prop) (H : Hp) (m : Bool) (a : Addr) (b : Bool) (its : List Tr) : Prop :=
  (∀ (O2 : Addr → Prop) (H2 : Hp), Wf F O2 H2 → Exn (gh F O H) (gh F O2 H2) → (m = true → Exn H H2) → ∃ vs, (b = true → SqL K H2 a vs) ∧ (b = false → SqT K H2 a vs) ∧ RTs K (gh F O2 H2) H2 F its vs []) ∧ (m = false → ∀ t ∈ its, noV t = true)
theorem SeqA.later {m b : Bool} {a : Addr} {its : List Tr} (s : SeqA K F O H m a b its) (g : Exn (gh F O H) (gh F O' H')) (e : Exn H H') : SeqA K F O' H' m a b its :=
  ⟨fun O2 H2 w2 g2 mm => s.1 O2 H2 w2 (g.trans g2) fun q => e.trans (mm q), s.2⟩
theorem seq_of {fq : List Addr} {m : Bool} {its : List Tr} (wf : Wf F (fun a => O a ∨ a ∈ fq) H) (fr : ∀ a ∈ fq, ¬ O a) (r : RT K (gh F (fun a => O a ∨ a ∈ fq) H) H F t v fq) (h : srcItems m t = some its) :
    (∃ z, v = .str z ∧ its = chars z) ∨ ∃ a b, v = .ref a ∧ kindT t = some b ∧ SeqA K F O H m a b its := by
  have wO : Wf F O H := ⟨fun a ha => wf.own a (.inl ha), fun a ha => wf.nw a (.inl ha), wf.ex⟩
  unfold srcItems at h
  split at h
  · rename_i z
    cases h
    exact .inl ⟨z, r.2, rfl⟩
  · rename_i ns
    cases h
    obtain ⟨_, a, rfl, q⟩ := r
    refine .inr ⟨a, true, rfl, rfl, fun O2 H2 w2 g mm => ⟨_, fun _ => sql_mono w2.ex q, nofun, RTs.ofInts⟩, fun _ t ht => ?_⟩
    obtain ⟨i, _, rfl⟩ := List.mem_map.mp ht
    rfl
  · rename_i x
    obtain ⟨⟨b, ks⟩, hk, rfl⟩ := Option.map_eq_some_iff.mp h
    obtain ⟨_, r⟩ := r
    have all : ∀ (O2 : Addr → Prop) (H2 : Hp), Wf F O2 H2 → ∃ p vs, v = .ref p ∧ (b = true → H2 p = some (.lst vs)) ∧ (b = false → H2 p = some (.tup vs)) ∧ RTs K (gh F O2 H2) H2 F ks vs [] := fun O2 H2 w2 => by
      obtain ⟨p, vs, f, e1, e2, e3, e4, e5⟩ := RT.kids (K := K) w2 (t := .e x) (v := v) (f := []) ⟨rfl, r⟩ hk
      cases e5
      exact ⟨p, vs, e1, e2, e3, e4⟩
    obtain ⟨p, vs, e1, _⟩ := all O H wO
    refine .inr ⟨p, b, e1, kind_kidsE hk, fun O2 H2 w2 g mm => ?_, fun _ => noV_kidsE hk⟩
    obtain ⟨p', vs', e1', e2', e3', e4'⟩ := all O2 H2 w2
    rw [e1] at e1'
    cases e1'
    exact ⟨vs', fun q => .inl (.inl (e2' q)), fun q => .inl (.inl (e3' q)), e4'⟩
  · rename_i x
    split at h
    · rename_i hm
      obtain ⟨⟨b, ks⟩, hk, rfl⟩ := Option.map_eq_some_iff.mp h
      obtain ⟨_, r⟩ := r
      have all : ∀ (O2 : Addr → Prop) (H2 : Hp), Wf F O2 H2 → Exn H H2 → ∃ p vs, v = .ref p ∧ (b = true → H2 p = some (.lst vs)) ∧ (b = false → H2 p = some (.tup vs)) ∧ RTs K (gh F O2 H2) H2 F ks vs [] := fun O2 H2 w2 e => by
        obtain ⟨p, vs, f, e1, e2, e3, e4, e5⟩ := RT.kids (K := K) w2 (t := .v x) (v := v) (f := []) ⟨rfl, Rp.mono e _ _ r⟩ hk
        cases e5
        exact ⟨p, vs, e1, e2, e3, e4⟩
      obtain ⟨p, vs, e1, _⟩ := all O H wO (Exn.refl _)
      refine .inr ⟨p, b, e1, kind_kidsV hk, fun O2 H2 w2 g mm => ?_, fun q => ?_⟩
      · obtain ⟨p', vs', e1', e2', e3', e4'⟩ := all O2 H2 w2 (mm hm)
        rw [e1] at e1'
        cases e1'
        exact ⟨vs', fun q => .inl (.inl (e2' q)), fun q => .inl (.inl (e3' q)), e4'⟩
      · rw [hm] at q; cases q
    · cases h
  · split at h
    · rename_i hc
      obtain ⟨x, hx, hk1⟩ := Option.bind_eq_some_iff.mp h
      obtain ⟨⟨b, ks⟩, hk, rfl⟩ := Option.map_eq_some_iff.mp hk1
      have rp : Rp (gh F O H) x v := RT.letgo wf fr hc hx r
      have all : ∀ (O2 : Addr → Prop) (H2 : Hp), Wf F O2 H2 → Exn (gh F O H) (gh F O2 H2) → ∃ p vs, v = .ref p ∧ (b = true → H2 p = some (.lst vs)) ∧ (b = false → H2 p = some (.tup vs)) ∧ RTs K (gh F O2 H2) H2 F ks vs [] := fun O2 H2 w2 e => by
        obtain ⟨p, vs, f, e1, e2, e3, e4, e5⟩ := RT.kids (K := K) w2 (t := .d x) (v := v) (f := []) ⟨rfl, Rp.mono e _ _ rp⟩ hk
        cases e5
        exact ⟨p, vs, e1, e2, e3, e4⟩
      obtain ⟨p, vs, e1, _⟩ := all O H wO (Exn.refl _)
      refine .inr ⟨p, b, e1, (kind_data hx).trans (kind_kids hk), fun O2 H2 w2 g mm => ?_, fun _ => noV_kids hk⟩
      obtain ⟨p', vs', e1', e2', e3', e4'⟩ := all O2 H2 w2 g
      rw [e1] at e1'
      cases e1'
      exact ⟨vs', fun q => .inl (.inl (e2' q)), fun q => .inl (.inl (e3' q)), e4'⟩
    · cases h
def dSrc (m : Bool) (fa : En → Rs Tr) : En → Rs (List Tr) := fun en => (fa en).bind fun t => Rs.of (srcItems m t)
def rgOk (n : Int) : Bool := within 1000000 n
theorem rgOk_iff {n : Int} : rgOk n = true ↔ -1000000 < n ∧ n < 1000000 := by
  unfold rgOk
  rw [within_iff]
  omega
theorem rgOk_nat {n : Nat} (h : n < 1000000) : rgOk (n : Int) = true := rgOk_iff.mpr ⟨by omega, by omega⟩
def dRng1 (fa : En → Rs Tr) : En → Rs (List Tr) := fun en => (dI fa en).bind fun n => if rgOk n then .ok ((List.range n.toNat).map fun (i : Nat) => .d (.int (0 + (i : Int)))) else .no
def dRng2 (fa fb : En → Rs Tr) : En → Rs (List Tr) := fun en => (dI fa en).bind fun lo => (dI fb en).bind fun hi => if rgOk lo && rgOk hi then .ok ((List.range (hi - lo).toNat).map fun (i : Nat) => .d (.int (lo + (i : Int)))) else .no
-- pairs
def zipT : List Tr → List Tr → List Tr
  | a :: as, b :: bs => mkTp [a, b] :: zipT as bs
  | _, _ => []
def dZip (m : Bool) (fa fb : En → Rs Tr) : En → Rs (List Tr) := fun en => (fa en).bind fun t => (fb en).bind fun u =>
  if kindT t = some true ∧ kindT u = some true then (Rs.of (srcItems m t)).bind fun xs => (Rs.of (srcItems m u)).bind fun ys => .ok (zipT xs ys) else .no
theorem zip_get : ∀ {as bs : List Tr} {i : Nat} {t : Tr}, (zipT as bs)[i]? = some t → ∃ a b, as[i]? = some a ∧ bs[i]? = some b ∧ t = mkTp [a, b]
  | [], _, _, _, h => by cases h
  | _ :: _, [], _, _, h => by cases h
  | a :: as, b :: bs, 0, t, h => ⟨a, b, rfl, rfl, (Option.some.inj h).symm⟩
  | a :: as, b :: bs, i + 1, t, h => zip_get (as := as) (bs := bs) (i := i) h
theorem zip_len : ∀ (as bs : List Tr), (zipT as bs).length = min as.length bs.length
  | [], _ => by simp [zipT]
  | _ :: _, [] => by simp [zipT]
  | a :: as, b :: bs => by
    show (zipT as bs).length + 1 = min (as.length + 1) (bs.length + 1)
    rw [zip_len as bs]
    omega
theorem noV_mkTp {a b : Tr} (ha : noV a = true) (hb : noV b = true) : noV (mkTp [a, b]) = true := by
  unfold mkTp
  split
  · rfl
  · show (noV a && (noV b && true)) = true
    rw [ha, hb]; rfl
theorem itr_zip {a b : Addr} {xs ys : List Tr} {m : Bool} (h1 : SeqA K F O H m a true xs) (h2 : SeqA K F O H m b true ys) : Itr' K F O H m (Itz K a b) (zipT xs ys) := by
  intro i O2 H2 wf g mm
  obtain ⟨vs, a1, _, a2⟩ := h1.1 O2 H2 wf g mm
  obtain ⟨ws, b1, _, b2⟩ := h2.1 O2 H2 wf g mm
  have l1 := a2.length
  have l2 := b2.length
  rw [zip_len]
  refine ⟨fun hi => ?_, fun t ht x H3 y => ?_, fun hi => ⟨vs, ws, a1 rfl, b1 rfl, by omega⟩⟩
  · exact ⟨vs, ws, vs[i]'(by omega), ws[i]'(by omega), a1 rfl, b1 rfl, List.getElem?_eq_getElem (by omega), List.getElem?_eq_getElem (by omega)⟩
  · obtain ⟨T, v, w, rfl, hT, rfl, q1, q2⟩ := y
    obtain ⟨ta, tb, e1, e2, rfl⟩ := zip_get ht
    obtain ⟨v', f1, c1, c2, c3⟩ := RTs.get a2 e1
    obtain ⟨w', f2, d1, d2, d3⟩ := RTs.get b2 e2
    rw [q1 vs (a1 rfl)] at c1
    rw [q2 ws (b1 rfl)] at d1
    cases c1
    cases d1
    cases c2
    cases d2
    have hx : Exn H2 (upd H2 T (.tup [v, w])) := Exn.new hT
    have gg : Exn (gh F O2 H2) (gh F O2 (upd H2 T (.tup [v, w]))) := gh_mono (fun a o _ q => hx a o q) fun a q => .inl q
    refine ⟨hx, RT.mkTp (vs := [v, w]) ⟨v, [w], [], [], rfl, rfl, RT.mono gg hx (Exn.refl _) _ _ _ c3, w, [], [], [], rfl, rfl, RT.mono gg hx (Exn.refl _) _ _ _ d3, rfl, rfl⟩ (gh_tup upd_same (wf.fresh hT)), fun q => ?_⟩
    exact noV_mkTp (h1.2 q _ (List.mem_of_getElem? e1)) (h2.2 q _ (List.mem_of_getElem? e2))
end

section
variable {X : Cx} {W : WW} {m : Bool} {e a b tg : Expr} {fa fb : En → Rs Tr} {pos p : Pos}
def iSeq (K : PySem.W.Frag) (te : TE) : TI := fun σ H R => te σ H fun x H1 => (∃ z, x = .str z ∧ R (Its z) H1) ∨ ∃ a b, x = .ref a ∧ (b = true → ∃ xs, SqL K H1 a xs) ∧ (b = false → ∃ xs, SqT K H1 a xs) ∧ R (if b then Itl K a else Itt K a) H1
theorem pi_seq {te : TE} (h : PE X e te) : PI X tg e (iSeq X.K te) := by
  constructor
  intro pins s σ H R I hw
  refine thn (h.run pins s σ H _ I hw) fun v s1 hh => ?_
  obtain ⟨x, H1, I1, r1, hz⟩ := hh
  rcases hz with ⟨z, rfl, q⟩ | ⟨a, b, rfl, hl, ht, q⟩
  · obtain ⟨t, rfl⟩ := r1
    cases ha : z.cps.all (· < 128) with
    | false => exact wpAny_pyIter_wide ha (pi_one (tk := s1.toks) I1 _ (turn_str _ z t "str_iterator" (.inr rfl)) ⟨_, Heap.get?_push_size _ rfl, rfl, rfl⟩ q)
    | true => exact wpAny_pyIter_ascii ha (pi_one (tk := s1.toks) I1 _ (turn_str _ z t "str_ascii_iterator" (.inl rfl)) ⟨_, Heap.get?_push_size _ rfl, rfl, rfl⟩ q)
  · cases r1
    cases b with
    | true =>
      obtain ⟨xs, hq⟩ := hl rfl
      obtain ⟨its, rv, pl, _⟩ := I1.list hq
      exact wpAny_pyIter_list pl.isList (pi_one (tk := s1.toks) I1 _ (turn_list a _) ⟨_, Heap.get?_push_size _ rfl, rfl, rfl⟩ q)
    | false =>
      obtain ⟨xs, hq⟩ := ht rfl
      obtain ⟨its, rv, pl, _⟩ := I1.tuple hq
      exact wpAny_pyIter_tuple (show s1.heap.IsTuple a its.toArray from pl) (pi_one (tk := s1.toks) I1 _ (turn_tuple a _) ⟨_, Heap.get?_push_size _ rfl, rfl, rfl⟩ q)
theorem si_seq (ha : Snd X W a fa) : SndI X W m tg a (dSrc m fa) := pi_wk (pi_seq ha) fun σ H R h => by
  obtain ⟨F, en, fp, O, S, h⟩ := h
  refine ⟨F, en, fp, O, S, ?_⟩
  unfold dSrc at h
  cases e : fa en with
  | er c => rw [e] at h; exact h
  | no => rw [e] at h; exact h
  | ok t =>
    rw [e] at h
    simp only [Rs.bind_ok'] at h
    intro v H1 ⟨e1, fq, nd, fr, rt⟩
    have S1 := S.add e1 fq fr (RT.own t v fq rt)
    cases q : srcItems m t with
    | none => rw [q] at h; exact h.elim
    | some its =>
      rw [q] at h
      rcases seq_of S1.wf (fun a ha => S.fresh (fr a ha)) rt q with ⟨z, rfl, rfl⟩ | ⟨a, b, rfl, _, sq⟩
      · exact .inl ⟨z, rfl, h _ H1 e1 itr_str⟩
      · obtain ⟨vs, h1, h2, _⟩ := sq.1 O H1 (S.grow e1).wf (Exn.refl _) fun _ => Exn.refl _
        exact .inr ⟨a, b, rfl, fun q => ⟨vs, h1 q⟩, fun q => ⟨vs, h2 q⟩, h _ H1 e1 (itr_seq sq.1 sq.2)⟩
theorem ta_int1 {K : PySem.W.Frag} {F : Hp} {fp : Nat → List Addr} {O : Addr → Prop} {en : En} {σ : L2.St} {H : Hp} {Q : List V → Hp → Prop} (S : Stt K F en σ H fp O)
    (h : match dI fa en with | .ok i => ∀ H', Exn H H' → Q [.int i] H' | .er c => ∀ H', Exn H H' → W c σ H' | .no => False) : tCons (tM K W fa) tNil σ H Q := tm_int S h
theorem si_rng1 (hg : Gl X "range") (hm : X.mg "range" = none) (ha : Snd X W a fa) (hs : starEach [a] X.env = [(false, eval a X.env)] := by rfl) : SndI X W m tg (.Call (.Name "range" p) [a] [] pos) (dRng1 fa) :=
  pi_wk (pi_range1 hg hm (pa_cons ha pa_nil (by rw [hs]; rfl)) hs) fun σ H R h => by
    obtain ⟨F, en, fp, O, S, h⟩ := h
    unfold dRng1 at h
    refine ta_int1 S ?_
    cases e : dI fa en with
    | er c => rw [e] at h; exact h
    | no => rw [e] at h; exact h
    | ok n =>
      rw [e] at h
      simp only [Rs.bind_ok'] at h
      intro H1 e1
      by_cases hn : rgOk n = true
      · rw [if_pos hn] at h
        rw [rgOk_iff] at hn
        exact ⟨n, rfl, by omega, by omega, h _ H1 e1 itr_rng⟩
      · rw [if_neg hn] at h
        exact h.elim
theorem si_rng2 {b : Expr} {fb : En → Rs Tr} (hg : Gl X "range") (hm : X.mg "range" = none) (ha : Snd X W a fa) (hb : Snd X W b fb) (hs : starEach [a, b] X.env = [(false, eval a X.env), (false, eval b X.env)] := by rfl) (hs2 : starEach [b] X.env = [(false, eval b X.env)] := by rfl) :
    SndI X W m tg (.Call (.Name "range" p) [a, b] [] pos) (dRng2 fa fb) :=
  pi_wk (pi_range2 hg hm (pa_cons ha (pa_cons hb pa_nil (by rw [hs2]; rfl)) (by rw [hs, hs2])) hs hs2) fun σ H R h => by
    obtain ⟨F, en, fp, O, S, h⟩ := h
    unfold dRng2 at h
    refine tm_int S ?_
    cases e : dI fa en with
    | er c => rw [e] at h; exact h
    | no => rw [e] at h; exact h
    | ok lo =>
      rw [e] at h
      simp only [Rs.bind_ok'] at h
      intro H1 e1
      refine ta_int1 (S.grow e1) ?_
      cases e2 : dI fb en with
      | er c => rw [e2] at h; exact fun H2 e2 => h H2 (e1.trans e2)
      | no => rw [e2] at h; exact h
      | ok hi =>
        rw [e2] at h
        simp only [Rs.bind_ok'] at h
        intro H2 e3
        by_cases hn : (rgOk lo && rgOk hi) = true
        · rw [if_pos hn] at h
          rw [Bool.and_eq_true, rgOk_iff, rgOk_iff] at hn
          exact ⟨lo, hi, rfl, by omega, h _ H2 (e1.trans e3) itr_rng⟩
        · rw [if_neg hn] at h
          exact h.elim
theorem notStr {K : PySem.W.Frag} {G H F : Hp} {t : Tr} {z : Str} {f : List Addr} (r : RT K G H F t (.str z) f) (h : kindT t = some true) : False := by
  cases t with
  | d x => cases x <;> cases h; obtain ⟨_, _, _, e, _⟩ := r; cases e
  | e x => cases x <;> cases h; obtain ⟨_, _, _, e, _⟩ := r; cases e
  | v x => cases x <;> cases h; obtain ⟨_, _, _, e, _⟩ := r; cases e
  | s _ => obtain ⟨_, _, e, _⟩ := r; cases e
  | dt _ => cases h
  | ol _ => obtain ⟨_, _, _, e, _⟩ := r; cases e
  | tp _ => cases h
theorem si_zip {elts : List Expr} {kk : Nat} {tpos : Pos} (hg : Gl X "zip") (hm : X.mg "zip" = none) (ha : Snd X W a fa) (hb : Snd X W b fb)
    (hs : starEach [a, b] X.env = (false, eval a X.env) :: starEach [b] X.env := by rfl) (hs2 : starEach [b] X.env = [(false, eval b X.env)] := by rfl) (hpl : (backTo pos (starEach [b] X.env)).any (·.1) = false := by rfl) :
    SndI X W m (.Tuple elts kk tpos) (.Call (.Name "zip" p) [a, b] [] pos) (dZip m fa fb) :=
  pi_wk (pi_zip hg hm (pa_cons ha (pa_cons hb pa_nil (by rw [hs2]; rfl)) hs) hs hpl) fun σ H R h => by
    obtain ⟨F, en, fp, O, S, h⟩ := h
    unfold dZip at h
    refine ⟨F, en, fp, O, S, ?_⟩
    cases e : fa en with
    | er c => rw [e] at h; exact h
    | no => rw [e] at h; exact h
    | ok t =>
      rw [e] at h
      simp only [Rs.bind_ok'] at h
      intro v H1 ⟨e1, fq, nd, fr, rt⟩
      have S1 := S.add e1 fq fr (RT.own t v fq rt)
      refine ⟨F, en, fp, _, S1, ?_⟩
      cases e2 : fb en with
      | er c => rw [e2] at h; exact fun H2 e3 => h H2 (e1.trans e3)
      | no => rw [e2] at h; exact h
      | ok u =>
        rw [e2] at h
        simp only [Rs.bind_ok'] at h
        intro w H2 ⟨e3, fq2, nd2, fr2, rt2⟩
        have S2 := S1.add e3 fq2 fr2 (RT.own u w fq2 rt2)
        by_cases hk : kindT t = some true ∧ kindT u = some true
        · rw [if_pos hk] at h
          cases q1 : srcItems m t with
          | none => rw [q1] at h; exact h.elim
          | some xs =>
            rw [q1] at h
            cases q2 : srcItems m u with
            | none => rw [q2] at h; exact h.elim
            | some ys =>
              rw [q2] at h
              simp only [Rs.of_some, Rs.bind_ok'] at h
              rcases seq_of S1.wf (fun a ha => S.fresh (fr a ha)) rt q1 with ⟨z, rfl, _⟩ | ⟨a1, b1, rfl, k1, s1⟩
              · exact (notStr rt hk.1).elim
              · rcases seq_of S2.wf (fun a ha => S1.fresh (fr2 a ha)) rt2 q2 with ⟨z, rfl, _⟩ | ⟨a2, b2, rfl, k2, s2⟩
                · exact (notStr rt2 hk.2).elim
                · rw [hk.1] at k1
                  rw [hk.2] at k2
                  cases k1
                  cases k2
                  have s1' : SeqA X.K F O H2 m a1 true xs := s1.later (gh_mono (fun a o _ q => e3 a o q) fun a q => .inl q) e3
                  have s2' : SeqA X.K F O H2 m a2 true ys := s2.later (gh_mono (fun a o _ q => q) fun a q => .inl (.inl q)) (Exn.refl _)
                  have w := ((S.grow e1).grow e3).wf
                  obtain ⟨vs, v1, _⟩ := s1'.1 O H2 w (Exn.refl _) fun _ => Exn.refl _
                  obtain ⟨ws, v2, _⟩ := s2'.1 O H2 w (Exn.refl _) fun _ => Exn.refl _
                  exact ⟨a1, a2, vs, ws, rfl, v1 rfl, v2 rfl, h _ H2 (e1.trans e3) (itr_zip s1' s2')⟩
        · rw [if_neg hk] at h
          exact h.elim
end
end RP
namespace RP
open PySem L2

section
variable {K : PySem.W.Frag} {W : WW} {F H H' H1 G G' : Hp} {en en' : En} {σ : L2.St} {fp : Nat → List Addr} {O O' : Addr → Prop} {t : Tr} {v : V}

/-! ### storing in a slot -/
theorem Stt.put (S : Stt K F en σ H fp O) (j : Nat) (fq : List Addr) (nd : fq.Nodup) (ho : ∀ a ∈ fq, O a) (dj : ∀ i a, i ≠ j → a ∈ fq → a ∉ fp i) (r : RT K (gh F O H) H F t v fq) (hj : j < en.length) :
    Stt K F (en.set j (some t)) (σ.set j (some v)) H (fun i => if i = j then fq else fp i) O := by
  refine ⟨by rw [List.length_set, List.length_set]; exact S.len, fun i u h => ?_, fun i => ?_, fun i k a h1 h2 => ?_, fun i a h => ?_, S.own, S.nw, S.ex⟩
  · by_cases e : i = j
    · subst e
      rw [List.getElem?_set_self hj] at h
      cases h
      refine ⟨v, List.getElem?_set_self (by rw [S.len]; exact hj), ?_⟩
      rw [if_pos rfl]
      exact r
    · rw [List.getElem?_set_ne (Ne.symm e)] at h
      obtain ⟨w, h1, h2⟩ := S.sl i u h
      refine ⟨w, by rw [List.getElem?_set_ne (Ne.symm e)]; exact h1, ?_⟩
      rw [if_neg e]
      exact h2
  · split
    · exact nd
    · exact S.nd i
  · by_cases e1 : i = j
    · by_cases e2 : k = j
      · rw [e1, e2]
      · rw [if_pos e1] at h1
        rw [if_neg e2] at h2
        exact absurd h2 (dj k a e2 h1)
    · by_cases e2 : k = j
      · rw [if_neg e1] at h1
        rw [if_pos e2] at h2
        exact absurd h1 (dj i a e1 h2)
      · rw [if_neg e1] at h1
        rw [if_neg e2] at h2
        exact S.dj i k a h1 h2
  · by_cases e : i = j
    · rw [if_pos e] at h
      exact ho a h
    · rw [if_neg e] at h
      exact S.fo i a h
-- a slot forgotten
theorem Stt.drop (S : Stt K F en σ H fp O) (j : Nat) : Stt K F (en.set j none) (σ.set j none) H (fun i => if i = j then [] else fp i) O := by
  refine ⟨by rw [List.length_set, List.length_set]; exact S.len, fun i u h => ?_, fun i => ?_, fun i k a h1 h2 => ?_, fun i a h => ?_, S.own, S.nw, S.ex⟩
  · by_cases e : i = j
    · subst e
      by_cases hi : i < en.length
      · rw [List.getElem?_set_self hi] at h; cases h
      · rw [List.getElem?_eq_none (by rw [List.length_set]; omega)] at h; cases h
    · rw [List.getElem?_set_ne (Ne.symm e)] at h
      obtain ⟨w, h1, h2⟩ := S.sl i u h
      refine ⟨w, by rw [List.getElem?_set_ne (Ne.symm e)]; exact h1, ?_⟩
      rw [if_neg e]
      exact h2
  · split
    · exact List.nodup_nil
    · exact S.nd i
  · by_cases e1 : i = j
    · rw [if_pos e1] at h1; cases h1
    · by_cases e2 : k = j
      · rw [if_pos e2] at h2; cases h2
      · rw [if_neg e1] at h1
        rw [if_neg e2] at h2
        exact S.dj i k a h1 h2
  · by_cases e : i = j
    · rw [if_pos e] at h; cases h
    · rw [if_neg e] at h
      exact S.fo i a h
-- .. in the denotation alone
theorem Stt.hush (S : Stt K F en σ H fp O) (j : Nat) : Stt K F (en.set j none) σ H (fun i => if i = j then [] else fp i) O := by
  have h := S.drop j
  refine ⟨by rw [List.length_set]; exact S.len, fun i u e => ?_, h.nd, h.dj, h.fo, S.own, S.nw, S.ex⟩
  obtain ⟨w, h1, h2⟩ := h.sl i u e
  by_cases q : i = j
  · subst q
    by_cases hi : i < en.length
    · rw [List.getElem?_set_self hi] at e; cases e
    · rw [List.getElem?_eq_none (by rw [List.length_set]; omega)] at e; cases e
  · rw [List.getElem?_set_ne (Ne.symm q)] at h1
    exact ⟨w, h1, h2⟩

/-! ### targets -/
abbrev Tg := Tr → En → Option En
def tgN (j : Nat) : Tg := fun t en => if j < en.length then some (en.set j (some t)) else none
def tgP (j k : Nat) : Tg := fun t en => match kids t with
  | some (false, [a, b]) => if j < en.length ∧ k < en.length then some ((en.set j (some a)).set k (some b)) else none
  | _ => none
-- the target's store; js: the slots that it touches
def GOk (K : PySem.W.Frag) (g : TG) (T : Tg) (js : List Nat) : Prop :=
  ∀ (F : Hp) (en : En) (fp : Nat → List Addr) (O : Addr → Prop) (σ : L2.St) (H : Hp) (t : Tr) (v : V) (en' : En) (Q : L2.St → Hp → Prop),
    Stt K F en σ H fp O → RT K (gh F O H) H F t v [] → T t en = some en' →
    (∀ σ' fp', Stt K F en' σ' H fp' O → (∀ (i : Nat), i ∉ js → σ'[i]? = σ[i]?) → σ'.length = σ.length → (noV t = true → (∀ (i : Nat) (u : Tr), en[i]? = some (some u) → noV u = true) → ∀ (i : Nat) (u : Tr), en'[i]? = some (some u) → noV u = true) → Q σ' H) → g v σ H Q
theorem nv_set {j : Nat} {t : Tr} (ht : noV t = true) (h : ∀ (i : Nat) (u : Tr), en[i]? = some (some u) → noV u = true) : ∀ (i : Nat) (u : Tr), (en.set j (some t))[i]? = some (some u) → noV u = true := fun i u e => by
  by_cases q : i = j
  · subst q
    by_cases hi : i < en.length
    · rw [List.getElem?_set_self hi] at e
      cases e
      exact ht
    · rw [List.getElem?_eq_none (by rw [List.length_set]; omega)] at e; cases e
  · rw [List.getElem?_set_ne (Ne.symm q)] at e
    exact h i u e
theorem g_name (j : Nat) : GOk K (gName j) (tgN j) [j] := by
  intro F en fp O σ H t v en' Q S r h k
  unfold tgN at h
  split at h
  · rename_i hj
    cases h
    refine k _ _ (S.put j [] List.nodup_nil (fun _ h => by cases h) (fun _ _ _ h => by cases h) r hj) (fun i hi => ?_) (List.length_set ..) fun a b => nv_set a b
    exact List.getElem?_set_ne (fun e => hi (by rw [e]; exact List.mem_singleton.mpr rfl))
  · cases h
theorem noVs_mem : ∀ {ts : List Tr}, noVs ts = true → ∀ t ∈ ts, noV t = true
  | [], _, _, h => by cases h
  | u :: ts, h, t, ht => by
    have h' : (noV u && noVs ts) = true := h
    rw [Bool.and_eq_true] at h'
    rcases List.mem_cons.mp ht with rfl | q
    · exact h'.1
    · exact noVs_mem h'.2 t q
theorem kids_noV {b : Bool} {ts : List Tr} (h : kids t = some (b, ts)) (n : noV t = true) : ∀ u ∈ ts, noV u = true := by
  cases t with
  | d x => exact noV_kids h
  | e x => exact noV_kidsE h
  | v x => cases n
  | s _ => cases h
  | dt _ => cases h
  | ol us => cases h; exact noVs_mem n
  | tp us => cases h; exact noVs_mem n
theorem g_pair (j k : Nat) : GOk K (L2.gTup K 2 (gCons (gName j) (gCons (gName k) gNil))) (tgP j k) [j, k] := by
  intro F en fp O σ H t v en' Q S r h kk
  unfold tgP at h
  split at h
  · rename_i a b hk
    split at h
    · rename_i hj
      cases h
      obtain ⟨p, vs, f, rfl, -, h2, h3, h4⟩ := RT.kids S.wf r hk
      cases h4
      obtain ⟨x, y, f1, f2, rfl, e, r1, r2⟩ := rts2 h3
      obtain ⟨e1, e2⟩ := List.append_eq_nil_iff.mp e.symm
      subst e1 e2
      refine ⟨p, [x, y], rfl, .inl (.inl (h2 rfl)), rfl, x, [y], rfl, y, [], rfl, rfl, ?_⟩
      have S1 := S.put j [] List.nodup_nil (fun _ h => by cases h) (fun _ _ _ h => by cases h) r1 hj.1
      have S2 := S1.put k [] List.nodup_nil (fun _ h => by cases h) (fun _ _ _ h => by cases h) r2 (by rw [List.length_set]; exact hj.2)
      refine kk _ _ S2 (fun i hi => ?_) (by rw [List.length_set, List.length_set]) fun n1 n2 => ?_
      · rw [List.getElem?_set_ne (fun e => hi (by rw [e]; simp)), List.getElem?_set_ne (fun e => hi (by rw [e]; simp))]
      · exact nv_set (kids_noV hk n1 b (by simp)) (nv_set (kids_noV hk n1 a (by simp)) n2)
    · cases h
  · cases h

/-! ### the slots of a block -/
def wipeE (en : En) : List Nat → En
  | [] => en
  | v :: vs => (wipeE en vs).set v none
theorem wipeE_length : ∀ vs : List Nat, (wipeE en vs).length = en.length
  | [] => rfl
  | v :: vs => by
    show ((wipeE en vs).set v none).length = en.length
    rw [List.length_set, wipeE_length vs]
theorem wipe_get (i : Nat) : ∀ vs : List Nat, (wipe σ vs)[i]? = if i ∈ vs then (σ[i]?).map (fun _ => none) else σ[i]?
  | [] => by simp [wipe]
  | v :: vs => by
    show ((wipe σ vs).set v none)[i]? = _
    rw [List.getElem?_set]
    by_cases e : v = i
    · subst e
      rw [if_pos rfl, wipe_length]
      by_cases h : v < σ.length
      · rw [if_pos h, if_pos List.mem_cons_self, List.getElem?_eq_getElem h]
        rfl
      · rw [if_neg h, if_pos List.mem_cons_self, List.getElem?_eq_none (by omega)]
        rfl
    · rw [if_neg e, wipe_get i vs]
      by_cases h : i ∈ vs
      · rw [if_pos h, if_pos (List.mem_cons_of_mem _ h)]
      · rw [if_neg h, if_neg (fun z => (List.mem_cons.mp z).elim (fun q => e q.symm) h)]
theorem wipe_same {σ' : L2.St} {vs : List Nat} (hl : σ'.length = σ.length) (h : ∀ i, i ∉ vs → σ'[i]? = σ[i]?) : wipe σ' vs = wipe σ vs := by
  refine List.ext_getElem? fun i => ?_
  rw [wipe_get, wipe_get]
  by_cases q : i ∈ vs
  · rw [if_pos q, if_pos q]
    by_cases hi : i < σ.length
    · rw [List.getElem?_eq_getElem hi, List.getElem?_eq_getElem (by omega)]
      rfl
    · rw [List.getElem?_eq_none (by omega), List.getElem?_eq_none (by omega)]
  · rw [if_neg q, if_neg q]
    exact h i q
theorem wipe_wipe (vs : List Nat) : wipe (wipe σ vs) vs = wipe σ vs := by
  refine wipe_same (wipe_length σ vs) fun i hi => ?_
  rw [wipe_get, if_neg hi]
theorem Stt.wipe : ∀ {vs : List Nat}, Stt K F en σ H fp O → ∃ fp', Stt K F (wipeE en vs) (L2.wipe σ vs) H fp' O
  | [], S => ⟨fp, S⟩
  | v :: vs, S => by
    obtain ⟨fp', S'⟩ := Stt.wipe (vs := vs) S
    exact ⟨_, S'.drop v⟩

/-! ### list comprehensions -/
def Rs.nx {α : Type} : Rs α → Rs α
  | .ok a => .ok a
  | _ => .no
def optB (f : Option (En → Rs Bool)) (en : En) : Rs Bool := match f with
  | none => .ok true
  | some f => f en
def compL (T : Tg) (test : Option (En → Rs Bool)) (elt : En → Rs Tr) (en : En) : List Tr → Rs (List Tr)
  | [] => .ok []
  | t :: its => match T t en with
    | none => .no
    | some en1 => (optB test en1).bind fun b => if b then (elt en1).bind fun x => if noV x then (compL T test elt en its).bind fun xs => .ok (x :: xs) else .no else compL T test elt en its
def dComp (src : En → Rs (List Tr)) (T : Tg) (vs : List Nat) (test : Option (En → Rs Bool)) (elt : En → Rs Tr) : En → Rs Tr := fun en =>
  (src en).bind fun its => (Rs.nx (compL T test elt (wipeE en vs) its)).bind fun ts => if its.length ≤ 100000 then .ok (.ol ts) else .no
def W0 : WW := fun _ _ _ => False
def tOpt (K : PySem.W.Frag) (f : Option (En → Rs Bool)) : TT := match f with
  | none => tYes
  | some f => tT K W0 f
theorem tm_comp {src : En → Rs (List Tr)} {T : Tg} {js vs : List Nat} {test : Option (En → Rs Bool)} {elt : En → Rs Tr} {g : TG} (hg : GOk K g T js) (hj : ∀ j ∈ js, j ∈ vs) {Q : VK} (h : tM K W (dComp src T vs test elt) σ H Q) :
    tLc (tI K W true src) g (tOpt K test) (tM K W0 elt) vs σ H Q := by
  obtain ⟨F, en, fp, O, S, h⟩ := h
  refine ⟨F, en, fp, O, S, ?_⟩
  unfold dComp at h
  cases e : src en with
  | er c => rw [e] at h; exact h
  | no => rw [e] at h; exact h
  | ok its =>
    rw [e] at h
    simp only [Rs.bind_ok'] at h
    intro J H1 e1 itr D hD
    cases q : compL T test elt (wipeE en vs) its with
    | er c => rw [q] at h; exact h.elim
    | no => rw [q] at h; exact h.elim
    | ok ts =>
      rw [q] at h
      simp only [Rs.nx, Rs.bind_ok'] at h
      by_cases hz : its.length ≤ 100000
      · rw [if_pos hz] at h
        have S1 := S.grow e1
        -- the invariant
        refine ⟨fun i m H2 => m = its.length - i ∧ i ≤ its.length ∧ Exn H1 H2 ∧ ∃ acc us rest fq, H2 D = some (.lst acc) ∧ fq.Nodup ∧ (∀ a ∈ fq, H1 a = none ∧ a ≠ D) ∧ noVs us = true ∧
            RTs K (gh F (fun a => O a ∨ a ∈ D :: fq) H2) H2 F us acc fq ∧ acc.length ≤ i ∧ compL T test elt (wipeE en vs) (its.drop i) = .ok rest ∧ us ++ rest = ts, ⟨its.length, rfl, Nat.zero_le _, Exn.new hD, [], [], ts, [], upd_same, List.nodup_nil, (fun _ h => by cases h), rfl, ⟨rfl, rfl⟩, Nat.le_refl _, q, rfl⟩, ?_⟩
        rintro i m H2 ⟨rfl, hi, e2, acc, us, rest, fq, hD2, nd, fr, nv, rt, hl, hc, ht⟩
        have own2 : ∀ a ∈ D :: fq, ∃ o, H2 a = some o ∧ IsOwn o := fun a ha => by
          rcases List.mem_cons.mp ha with rfl | ha
          · exact ⟨_, hD2, .inl ⟨_, rfl⟩⟩
          · exact RTs.own us acc fq rt a ha
        have fr2 : ∀ a ∈ D :: fq, H1 a = none := fun a ha => by
          rcases List.mem_cons.mp ha with rfl | ha
          · exact hD
          · exact (fr a ha).1
        have S2 := S1.add e2 (D :: fq) fr2 own2
        obtain ⟨j1, j2, j3⟩ := itr i _ H2 S2.wf (gh_mono (fun a o _ z => e2 a o z) fun a z => z.imp id (fr2 a)) fun _ => e2
        by_cases hlt : i < its.length
        · refine .inr ⟨j1 hlt, fun H5 => ∃ acc us rest fq, Exn H1 H5 ∧ H5 D = some (.lst acc) ∧ fq.Nodup ∧ (∀ a ∈ fq, H1 a = none ∧ a ≠ D) ∧ noVs us = true ∧
            RTs K (gh F (fun a => O a ∨ a ∈ D :: fq) H5) H5 F us acc fq ∧ acc.length ≤ i + 1 ∧ compL T test elt (wipeE en vs) (its.drop (i + 1)) = .ok rest ∧ us ++ rest = ts, ?_, ?_⟩
          · rintro H5 ⟨acc', us', rest', fq', a1, a2, a3, a4, a5, a6, a7, a8, a9⟩
            exact ⟨its.length - (i + 1), by omega, rfl, hlt, a1, acc', us', rest', fq', a2, a3, a4, a5, a6, a7, a8, a9⟩
          · intro x H3 y
            have gi : its[i]? = some its[i] := List.getElem?_eq_getElem hlt
            obtain ⟨e3, rx, _⟩ := j2 its[i] gi x H3 y
            have S3 := S2.grow e3
            obtain ⟨fpw, S3w⟩ := S3.wipe (vs := vs)
            -- one turn of the denotation
            rw [List.drop_eq_getElem_cons hlt] at hc
            unfold compL at hc
            cases hT : T its[i] (wipeE en vs) with
            | none => rw [hT] at hc; cases hc
            | some en1 =>
              rw [hT] at hc
              simp only at hc
              refine hg F (wipeE en vs) fpw _ (L2.wipe σ vs) H3 its[i] x en1 _ S3w rx hT fun σ2 fp2 S4 hσ hσl _ => ⟨?_, ?_⟩
              · rw [← wipe_wipe (σ := σ) vs]
                exact wipe_same (by rw [hσl]) fun k hk => hσ k fun z => hk (hj k z)
              · -- the test
                have skip : ∀ H4, Exn H3 H4 → compL T test elt (wipeE en vs) (its.drop (i + 1)) = .ok rest → ∃ acc us rest fq, Exn H1 H4 ∧ H4 D = some (.lst acc) ∧ fq.Nodup ∧ (∀ a ∈ fq, H1 a = none ∧ a ≠ D) ∧ noVs us = true ∧
                    RTs K (gh F (fun a => O a ∨ a ∈ D :: fq) H4) H4 F us acc fq ∧ acc.length ≤ i + 1 ∧ compL T test elt (wipeE en vs) (its.drop (i + 1)) = .ok rest ∧ us ++ rest = ts := fun H4 e4 hc => by
                  have e24 := e3.trans e4
                  exact ⟨acc, us, rest, fq, e2.trans e24, e24 _ _ hD2, nd, fr, nv, RTs.mono (gh_mono (fun a o _ z => e24 a o z) fun a z => .inl z) e24 (Exn.refl _) us acc fq rt, by omega, hc, ht⟩
                have step : ∀ H4, Exn H3 H4 → Stt K F en1 σ2 H4 fp2 (fun a => O a ∨ a ∈ D :: fq) → ((elt en1).bind fun x => if noV x then (compL T test elt (wipeE en vs) (its.drop (i + 1))).bind fun xs => .ok (x :: xs) else .no) = .ok rest →
                    tM K W0 elt σ2 H4 fun y H5 => ∃ acc, H5 D = some (.lst acc) ∧ acc.length < sizeLine ∧ ∃ acc1 us rest fq, Exn H1 (upd H5 D (.lst (acc ++ [y]))) ∧ (upd H5 D (.lst (acc ++ [y]))) D = some (.lst acc1) ∧ fq.Nodup ∧ (∀ a ∈ fq, H1 a = none ∧ a ≠ D) ∧ noVs us = true ∧
                      RTs K (gh F (fun a => O a ∨ a ∈ D :: fq) (upd H5 D (.lst (acc ++ [y])))) (upd H5 D (.lst (acc ++ [y]))) F us acc1 fq ∧ acc1.length ≤ i + 1 ∧ compL T test elt (wipeE en vs) (its.drop (i + 1)) = .ok rest ∧ us ++ rest = ts := fun H4 e4 S5 hc => by
                  refine ⟨F, en1, fp2, _, S5, ?_⟩
                  cases he : elt en1 with
                  | er c => rw [he] at hc; cases hc
                  | no => rw [he] at hc; cases hc
                  | ok x =>
                    rw [he] at hc
                    simp only [Rs.bind_ok'] at hc
                    by_cases hv : noV x = true
                    · rw [if_pos hv] at hc
                      cases hr : compL T test elt (wipeE en vs) (its.drop (i + 1)) with
                      | er c => rw [hr] at hc; cases hc
                      | no => rw [hr] at hc; cases hc
                      | ok xs =>
                        rw [hr] at hc
                        cases hc
                        rintro w H5 ⟨e5, fx, ndx, frx, rtx⟩
                        have e25 := (e3.trans e4).trans e5
                        have hD5 : H5 D = some (.lst acc) := e25 _ _ hD2
                        have neD : ∀ a ∈ fq ++ fx, a ≠ D := fun a ha z => by
                          rcases List.mem_append.mp ha with q | q
                          · exact (fr a q).2 z
                          · have := frx a q
                            rw [z, (e3.trans e4) _ _ hD2] at this
                            cases this
                        have dis : ∀ a ∈ fq, ∀ b ∈ fx, a ≠ b := fun a ha b hb z => by
                          obtain ⟨o, ho, _⟩ := RTs.own us acc fq rt a ha
                          have := frx b hb
                          rw [← z, (e3.trans e4) _ _ ho] at this
                          cases this
                        have keep : ∀ a ∈ fq ++ fx, (upd H5 D (.lst (acc ++ [w]))) a = H5 a := fun a ha => upd_ne (neD a ha)
                        have back : ∀ a, H4 a = none → H1 a = none := fun a ha => ((e2.trans e3).trans e4).back ha
                        refine ⟨acc, hD5, Nat.lt_of_le_of_lt hl (Nat.lt_of_lt_of_le hlt (sz _ hz)), acc ++ [w], us ++ [x], xs, fq ++ fx, ?_, upd_same, List.nodup_append.mpr ⟨nd, ndx, dis⟩, ?_, ?_, ?_, ?_, rfl, ?_⟩
                        · intro a o ho
                          have na : a ≠ D := fun z => by rw [z, hD] at ho; cases ho
                          rw [upd_ne na]
                          exact (e2.trans e25) a o ho
                        · intro a ha
                          refine ⟨?_, neD a ha⟩
                          rcases List.mem_append.mp ha with q | q
                          · exact (fr a q).1
                          · exact back a (frx a q)
                        · have : ∀ us : List Tr, noVs us = true → noVs (us ++ [x]) = true := fun us => by
                            induction us with
                            | nil => intro _; show (noV x && true) = true; rw [hv]; rfl
                            | cons u us ih =>
                              intro z
                              have z' : (noV u && noVs us) = true := z
                              rw [Bool.and_eq_true] at z'
                              show (noV u && noVs (us ++ [x])) = true
                              rw [z'.1, ih z'.2]; rfl
                          exact this us nv
                        · refine RTs.append ?_ (RTs.one ?_)
                          · have r5 : RTs K (gh F (fun a => O a ∨ a ∈ D :: (fq ++ fx)) H5) H5 F us acc fq := RTs.mono (gh_mono (fun a o _ z => e25 a o z) fun a z => by
                              rcases z with z | z
                              · exact .inl (.inl z)
                              · rcases List.mem_cons.mp z with z | z
                                · exact .inl (.inr (by rw [z]; exact List.mem_cons_self))
                                · rcases List.mem_append.mp z with z | z
                                  · exact .inl (.inr (List.mem_cons_of_mem _ z))
                                  · exact .inr ((e3.trans e4).back (frx a z))) e25 (Exn.refl _) us acc fq rt
                            exact RTs.frame (gh_mono (fun a o hn z => by rw [upd_ne (fun q => hn (.inr (by rw [q]; exact List.mem_cons_self)))]; exact z) fun a z => .inl z) us acc fq (fun a ha => keep a (List.mem_append_left _ ha)) nv r5
                          · have r5 : RT K (gh F (fun a => O a ∨ a ∈ D :: (fq ++ fx)) H5) H5 F x w fx := RT.mono (gh_mono (fun a o _ z => z) fun a z => by
                              rcases z with z | z
                              · exact .inl (.inl (.inl z))
                              · rcases List.mem_cons.mp z with z | z
                                · exact .inl (.inl (.inr (by rw [z]; exact List.mem_cons_self)))
                                · rcases List.mem_append.mp z with z | z
                                  · exact .inl (.inl (.inr (List.mem_cons_of_mem _ z)))
                                  · exact .inl (.inr z)) (Exn.refl _) (Exn.refl _) x w fx rtx
                            exact RT.frame (gh_mono (fun a o hn z => by rw [upd_ne (fun q => hn (.inr (by rw [q]; exact List.mem_cons_self)))]; exact z) fun a z => .inl z) x w fx (fun a ha => keep a (List.mem_append_right _ ha)) hv r5
                        · rw [List.length_append]
                          show acc.length + 1 ≤ i + 1
                          omega
                        · rw [List.append_assoc]
                          exact ht
                    · rw [if_neg hv] at hc
                      cases hc
                cases test with
                | none =>
                  exact step H3 (Exn.refl _) S4 hc
                | some ft =>
                  refine ⟨F, en1, fp2, _, S4, ?_⟩
                  have hc' : ((ft en1).bind fun b => if b then (elt en1).bind fun x => if noV x then (compL T (some ft) elt (wipeE en vs) (its.drop (i + 1))).bind fun xs => .ok (x :: xs) else .no else compL T (some ft) elt (wipeE en vs) (its.drop (i + 1))) = .ok rest := hc
                  cases hb : ft en1 with
                  | er c => rw [hb] at hc'; cases hc'
                  | no => rw [hb] at hc'; cases hc'
                  | ok b =>
                    rw [hb] at hc'
                    simp only [Rs.bind_ok'] at hc'
                    intro H4 e4
                    cases b with
                    | true =>
                      rw [if_pos rfl] at hc' ⊢
                      exact step H4 e4 (S4.grow e4) hc'
                    | false =>
                      rw [if_neg Bool.false_ne_true] at hc' ⊢
                      exact skip H4 e4 hc'
        · have ei : i = its.length := by omega
          subst ei
          refine .inl ⟨j3 (Nat.le_refl _), ?_⟩
          rw [List.drop_length] at hc
          cases hc
          rw [List.append_nil] at ht
          subst ht
          refine h (.ref D) H2 ⟨e1.trans e2, D :: fq, List.nodup_cons.mpr ⟨fun z => (fr D z).2 rfl, nd⟩, fun a ha => e1.back (fr2 a ha), D, acc, fq, rfl, rfl, hD2, rt⟩
      · rw [if_neg hz] at h
        exact h.elim
end

section
variable {X : Cx} {W : WW}
theorem pts_some {c : Expr} {f : En → Rs Bool} (h : SndT X W0 c f) : PTs X [c] (tOpt X.K (some f)) := pts_one h
theorem pts_none : PTs X [] (tOpt X.K none) := pts_nil
theorem sn_comp {elt tg iter : Expr} {ifs : List Expr} {scope : Scope} {own : List (Str × Nat)} {pos : Pos} {src : En → Rs (List Tr)} {T : Tg} {js : List Nat} {test : Option (En → Rs Bool)} {felt : En → Rs Tr} {g : TG} (hc : X.calm = true) (hN : X.N.Nodup)
    (hi : SndI X W true tg iter src) (ok : BlkOk X.N X.env.scope scope own)
    (hg : ∀ (s : Shared) (H : Hp) (C : Addr) (cl : List (Str × Addr)) (fp : List Addr), PG (X.blk s H scope (compEnvC scope cl C X.env) fp) tg g) (gk : GOk X.K g T js) (hj : ∀ j ∈ js, j ∈ own.map (·.2))
    (ht : ∀ (s : Shared) (H : Hp) (C : Addr) (cl : List (Str × Addr)) (fp : List Addr), PTs (X.blk s H scope (compEnvC scope cl C X.env) fp) ifs (tOpt X.K test))
    (he : ∀ (s : Shared) (H : Hp) (C : Addr) (cl : List (Str × Addr)) (fp : List Addr), PE (X.blk s H scope (compEnvC scope cl C X.env) fp) elt (tM X.K W0 felt)) (hs : ∀ x, foldedSetIterable iter X.env x = pure x := by intro _; rfl) :
    Snd X W (.ListComp elt [⟨tg, iter, ifs, 0⟩] scope pos) (dComp src T (own.map (·.2)) test felt) :=
  pe_wk (pe_lc hc hN hi ok hg ht he hs) fun _ _ _ h => tm_comp gk hj h
end

/-! ### the text's own defs -/
-- an argument: the script, or data
def argT : Tr → Option Tr
  | .s ns => some (.s ns)
  | t => (data t).map mkE
def argsT : List Tr → Option (List Tr)
  | [] => some []
  | t :: ts => (argT t).bind fun a => (argsT ts).map fun as => a :: as
abbrev Den := List Tr → Rs Tr
-- a def's promise
def spOf (K : PySem.W.Frag) (cl : Str → Addr) (den : Den) : Sp := fun vs H Q E => ∃ ts, RTs K (gh H (fun _ => False) H) H H ts vs [] ∧ (∀ t ∈ ts, noV t = true) ∧
  match den ts with
  | .ok t => ∀ v H' fq, Exn H H' → fq.Nodup → (∀ a ∈ fq, H a = none) → clean t = true → RT K (gh H (fun a => a ∈ fq) H') H' H t v fq → Q v H'
  | .er c => ∀ H', Exn H H' → E (.ref (cl c)) none H'
  | .no => False
def dCall (den : Den) (fr : En → Rs (List Tr)) : En → Rs Tr := fun en => (fr en).bind fun ts => (Rs.of (argsT ts)).bind den
def wOf (cl : Str → Addr) (Wx : WX) : WW := fun c σ H => Wx (.ref (cl c)) none σ H
section
variable {K : PySem.W.Frag} {F H H' : Hp} {O : Addr → Prop} {t : Tr} {v : V}
theorem arg_ok {u : Tr} {f : List Addr} (wf : Wf F O H) (r : RT K (gh F O H) H F t v f) (h : argT t = some u) : RT K (gh H (fun _ => False) H) H H u v [] ∧ noV u = true := by
  have tp : ∀ a vs, H a = some (.tup vs) → gh H (fun _ => False) H a = some (.tup vs) := fun a vs q => gh_tup q id
  unfold argT at h
  split at h
  · cases h
    obtain ⟨_, a, e, q⟩ := r
    exact ⟨⟨rfl, a, e, sql_mono wf.ex q⟩, rfl⟩
  · obtain ⟨x, hx, rfl⟩ := Option.map_eq_some_iff.mp h
    exact ⟨RT.mkE (RT.data gh_sub wf.ex _ v f x r hx) tp, noV_mkE x⟩
theorem args_ok : ∀ {ts us : List Tr} {vs : List V} {f : List Addr}, Wf F O H → RTs K (gh F O H) H F ts vs f → argsT ts = some us → RTs K (gh H (fun _ => False) H) H H us vs [] ∧ ∀ u ∈ us, noV u = true
  | [], us, vs, f, _, ⟨e1, _⟩, h => by cases h; exact ⟨⟨e1, rfl⟩, fun _ h => by cases h⟩
  | t :: ts, us, _, _, wf, ⟨v, vs', f1, f2, e1, e2, e3, e4⟩, h => by
    have h' : ((argT t).bind fun a => (argsT ts).map fun as => a :: as) = some us := h
    obtain ⟨a, ha, h2⟩ := Option.bind_eq_some_iff.mp h'
    obtain ⟨as, has, rfl⟩ := Option.map_eq_some_iff.mp h2
    obtain ⟨r1, n1⟩ := arg_ok wf e3 ha
    obtain ⟨r2, n2⟩ := args_ok wf e4 has
    refine ⟨⟨v, vs', [], [], e1, rfl, r1, r2⟩, fun u hu => ?_⟩
    rcases List.mem_cons.mp hu with rfl | q
    · exact n1
    · exact n2 u q
end
section
variable {X : Cx} {Wx : WX} {cl : Str → Addr}
theorem tm_call {K : PySem.W.Frag} {den : Den} {fr : En → Rs (List Tr)} {σ : L2.St} {H : Hp} {Q : VK} (h : tM K (wOf cl Wx) (dCall den fr) σ H Q) : tCallS (spOf K cl den) (WE Wx) (tA K (wOf cl Wx) fr) σ H Q := by
  obtain ⟨F, en, fp, O, S, h⟩ := h
  refine ⟨F, en, fp, O, S, ?_⟩
  unfold dCall at h
  cases e : fr en with
  | er c => rw [e] at h; exact h
  | no => rw [e] at h; exact h
  | ok ts =>
    rw [e] at h
    simp only [Rs.bind_ok'] at h
    intro vs H1 ⟨e1, fq, nd, fr1, rt⟩
    have S1 := S.add e1 fq fr1 (RTs.own ts vs fq rt)
    cases q : argsT ts with
    | none => rw [q] at h; exact h.elim
    | some us =>
      rw [q] at h
      simp only [Rs.of_some, Rs.bind_ok'] at h
      obtain ⟨r1, n1⟩ := args_ok S1.wf rt q
      refine ⟨us, r1, n1, ?_⟩
      cases d : den us with
      | er c => rw [d] at h; exact fun H2 e2 => h H2 (e1.trans e2)
      | no => rw [d] at h; exact h
      | ok t =>
        rw [d] at h
        intro v H2 fv e2 nd2 fr2 hc rt2
        have e12 := e1.trans e2
        refine h v H2 ⟨e12, fv, nd2, fun a ha => e1.back (fr2 a ha), RT.clean_mono (fun a o z => ?_) (Exn.refl _) t v fv hc rt2⟩
        obtain ⟨z1, z2, z3⟩ := gh_some z
        have nO : ¬ O a := fun q => by
          obtain ⟨o', ho, hi⟩ := S.own a q
          rcases z3 with ⟨xs, rfl⟩ | z3
          · rw [e12 a o' ho] at z2
            cases z2
            rcases hi with ⟨_, hi⟩ | ⟨_, hi⟩ <;> cases hi
          · rw [e1 a o' ho] at z3; cases z3
        rcases z3 with ⟨xs, rfl⟩ | z3
        · exact gh_tup z2 fun q => q.elim nO z1
        · exact gh_new z2 (fun q => q.elim nO z1) (Exn.back (S.ex.trans e1) z3)
theorem sn_call {k : Nat} {f : Addr} {fd : FuncData} {ps : List Str} {den : Den} {fr : En → Rs (List Tr)} {x : Str} {p pos : Pos} {e : Expr} {es : List Expr} (tk : Takes X Wx) (F : FnOk X.prog X.w X.K X.mg X.base (L2.CX X.prog X.w) k f fd ps (spOf X.K cl den)) (hr : Room k X.A) (hg : Gl X x) (hm : X.mg x = some (.ref f)) (hk : PySem.W.keepIn X.K (.ref f) = true) (hb : Binds X.K fd ps [])
    (ha : SndA X (wOf cl Wx) (e :: es) fr) (hdb : (x == ("__debug__" : Str)) = false := by decide) (he : starEach (e :: es) X.env = (false, eval e X.env) :: starEach es X.env := by rfl) (hpl : (backTo pos (starEach es X.env)).any (·.1) = false := by rfl) :
    Snd X (wOf cl Wx) (.Call (.Name x p) (e :: es) [] pos) (dCall den fr) :=
  pe_wk (pe_callS F hr hg hm hk hb (fun σ => passAt tk σ) ha hdb he hpl) fun _ _ _ h => tm_call h
end
end RP
namespace RP
open PySem L2

inductive SR where
  | nx (en : En)
  | rt (t : Tr) (en : En)
  | bk (en : En)
  | ct (en : En)
  | er (c : Str) (en : En)
  | no
abbrev DenS := En → SR

section
variable {K : PySem.W.Frag} {W : WW} {F H H' H1 G G' G0 : Hp} {en en' : En} {σ : L2.St} {fp : Nat → List Addr} {O O' : Addr → Prop} {t : Tr} {v : V} {D : Ends}

def Po (K : PySem.W.Frag) (W : WW) (D : Ends) (F G0 : Hp) (r : SR) : Prop :=
  match r with
  | .nx en => ∀ σ H fp O, StS K F en σ H fp O → Exn G0 (gh F O H) → D.nx σ H
  | .rt t en => ∀ v σ H fp O (fq : List Addr), StS K F en σ H fp O → Exn G0 (gh F O H) → fq.Nodup → (∀ a ∈ fq, O a) → (∀ i a, a ∈ fq → a ∉ fp i) → RT K (gh F O H) H F t v fq → D.rt v H
  | .bk en => ∀ σ H fp O, StS K F en σ H fp O → Exn G0 (gh F O H) → D.bk σ H
  | .ct en => ∀ σ H fp O, StS K F en σ H fp O → Exn G0 (gh F O H) → D.ct σ H
  | .er c en => ∀ σ H fp O, StS K F en σ H fp O → Exn G0 (gh F O H) → W c σ H
  | .no => False
theorem Po.later {r : SR} (h : Po K W D F G0 r) (g : Exn G0 G) : Po K W D F G r := by
  cases r with
  | nx en => exact fun σ H fp O S e => h σ H fp O S (g.trans e)
  | rt t en => exact fun v σ H fp O fq S e => h v σ H fp O fq S (g.trans e)
  | bk en => exact fun σ H fp O S e => h σ H fp O S (g.trans e)
  | ct en => exact fun σ H fp O S e => h σ H fp O S (g.trans e)
  | er c en => exact fun σ H fp O S e => h σ H fp O S (g.trans e)
  | no => exact h
def tS (K : PySem.W.Frag) (W : WW) (f : DenS) : TS := fun D σ H => ∃ F en fp O, StS K F en σ H fp O ∧ Po K W D F (gh F O H) (f en)
abbrev SndS (X : Cx) (W : WW) (s : Stmt) (f : DenS) : Prop := PS X s (tS X.K W f)
abbrev SndB (X : Cx) (W : WW) (s : List Stmt) (f : DenS) : Prop := PSs X s (tS X.K W f)
theorem StS.grow (S : StS K F en σ H fp O) (e : Exn H H') : StS K F en σ H' fp O := ⟨S.toStt.grow e, S.nv⟩
theorem StS.put (S : StS K F en σ H fp O) (j : Nat) (fq : List Addr) (nd : fq.Nodup) (ho : ∀ a ∈ fq, O a) (dj : ∀ i a, i ≠ j → a ∈ fq → a ∉ fp i) (r : RT K (gh F O H) H F t v fq) (hj : j < en.length) (n : noV t = true) :
    StS K F (en.set j (some t)) (σ.set j (some v)) H (fun i => if i = j then fq else fp i) O := ⟨S.toStt.put j fq nd ho dj r hj, nv_set n S.nv⟩

/-! ### in a row -/
def dNext : DenS := fun en => .nx en
def andThen (r : SR) (g : DenS) : SR := match r with
  | .nx en => g en
  | r => r
def dSeq (f g : DenS) : DenS := fun en => andThen (f en) g
theorem ts_seq {f g : DenS} (h : tS K W (dSeq f g) D σ H) : tSeq (tS K W f) (tS K W g) D σ H := by
  obtain ⟨F, en, fp, O, S, h⟩ := h
  refine ⟨F, en, fp, O, S, ?_⟩
  unfold dSeq at h
  cases e : f en with
  | nx en' =>
    rw [e] at h
    exact fun σ' H' fp' O' S' g' => ⟨F, en', fp', O', S', Po.later h g'⟩
  | rt t en' => rw [e] at h; exact h
  | bk en' => rw [e] at h; exact h
  | ct en' => rw [e] at h; exact h
  | er c en' => rw [e] at h; exact h
  | no => rw [e] at h; exact h
theorem ts_next (h : tS K W dNext D σ H) : tNext D σ H := by
  obtain ⟨F, en, fp, O, S, h⟩ := h
  exact h σ H fp O S (Exn.refl _)
def dBrk : DenS := fun en => .bk en
def dCnt : DenS := fun en => .ct en
theorem ts_brk (h : tS K W dBrk D σ H) : tBreak D σ H := by
  obtain ⟨F, en, fp, O, S, h⟩ := h
  exact h σ H fp O S (Exn.refl _)
theorem ts_cnt (h : tS K W dCnt D σ H) : tCont D σ H := by
  obtain ⟨F, en, fp, O, S, h⟩ := h
  exact h σ H fp O S (Exn.refl _)
-- from an expression's result to a statement's
def onR {α : Type} (r : Rs α) (en : En) (k : α → SR) : SR := match r with
  | .ok a => k a
  | .er c => .er c en
  | .no => .no
@[simp] theorem onR_ok {α : Type} (a : α) (en : En) (k : α → SR) : onR (.ok a) en k = k a := rfl
@[simp] theorem onR_er {α : Type} (c : Str) (en : En) (k : α → SR) : onR (.er c : Rs α) en k = .er c en := rfl
@[simp] theorem onR_no {α : Type} (en : En) (k : α → SR) : onR (.no : Rs α) en k = .no := rfl
def dIf (c : En → Rs Bool) (f g : DenS) : DenS := fun en => onR (c en) en fun b => if b then f en else g en
theorem ts_if {c : En → Rs Bool} {f g : DenS} (h : tS K W (dIf c f g) D σ H) : tIfS (tT K W c) (tS K W f) (tS K W g) D σ H := by
  obtain ⟨F, en, fp, O, S, h⟩ := h
  refine ⟨F, en, fp, O, S.toStt, ?_⟩
  unfold dIf at h
  have gg : ∀ H', Exn H H' → Exn (gh F O H) (gh F O H') := fun H' e => gh_mono (fun a o _ q => e a o q) fun a q => .inl q
  cases e : c en with
  | er c => rw [e] at h; exact fun H' e1 => h σ H' fp O (S.grow e1) (gg H' e1)
  | no => rw [e] at h; exact h
  | ok b =>
    rw [e] at h
    intro H' e1
    cases b with
    | true => exact ⟨F, en, fp, O, S.grow e1, Po.later h (gg H' e1)⟩
    | false => exact ⟨F, en, fp, O, S.grow e1, Po.later h (gg H' e1)⟩
def dDrop (fa : En → Rs Tr) : DenS := fun en => onR (fa en) en fun _ => .nx en
theorem ts_drop {fa : En → Rs Tr} (h : tS K W (dDrop fa) D σ H) : tDrop (tM K W fa) D σ H := by
  obtain ⟨F, en, fp, O, S, h⟩ := h
  refine ⟨F, en, fp, O, S.toStt, ?_⟩
  unfold dDrop at h
  have gg : ∀ H', Exn H H' → Exn (gh F O H) (gh F O H') := fun H' e => gh_mono (fun a o _ q => e a o q) fun a q => .inl q
  cases e : fa en with
  | er c => rw [e] at h; exact fun H' e1 => h σ H' fp O (S.grow e1) (gg H' e1)
  | no => rw [e] at h; exact h
  | ok t =>
    rw [e] at h
    exact fun v H' p => h σ H' fp O (S.grow p.1) (gg H' p.1)

/-! ### storing -/
def frz (t : Tr) : Tr := if clean t then (match data t with | some x => .d x | none => t) else t
def frzIf (b : Bool) (t : Tr) : Tr := if b then frz t else t
theorem frz_noV (h : noV t = true) : noV (frz t) = true := by
  unfold frz
  split
  · split
    · rfl
    · exact h
  · exact h
-- a tree just made, frozen or not, at home in a slot
theorem land {fq : List Addr} (b : Bool) (wf : Wf F (fun a => O a ∨ a ∈ fq) H) (fr : ∀ a ∈ fq, ¬ O a) (nd : fq.Nodup) (r : RT K (gh F (fun a => O a ∨ a ∈ fq) H) H F t v fq) :
    ∃ fq' : List Addr, fq'.Nodup ∧ (∀ a ∈ fq', a ∈ fq) ∧ RT K (gh F (fun a => O a ∨ a ∈ fq') H) H F (frzIf b t) v fq' := by
  unfold frzIf frz
  by_cases hb : b = true
  · rw [if_pos hb]
    by_cases hc : clean t = true
    · rw [if_pos hc]
      cases hd : data t with
      | none => exact ⟨fq, nd, fun _ q => q, r⟩
      | some x => exact ⟨[], List.nodup_nil, (fun _ h => by cases h), rfl, Rp.mono (gh_mono (fun _ _ _ q => q) fun a q => .inl (q.elim id fun z => by cases z)) _ _ (RT.letgo wf fr hc hd r)⟩
    · rw [if_neg hc]
      exact ⟨fq, nd, fun _ q => q, r⟩
  · rw [if_neg hb]
    exact ⟨fq, nd, fun _ q => q, r⟩
def dSet (b : Bool) (i : Nat) (fa : En → Rs Tr) : DenS := fun en => onR (fa en) en fun t => if noV t && decide (i < en.length) then .nx (en.set i (some (frzIf b t))) else .no
theorem ts_set {b : Bool} {i : Nat} {fa : En → Rs Tr} (h : tS K W (dSet b i fa) D σ H) : tAsg (tM K W fa) (gName i) D σ H := by
  obtain ⟨F, en, fp, O, S, h⟩ := h
  refine ⟨F, en, fp, O, S.toStt, ?_⟩
  unfold dSet at h
  cases e : fa en with
  | er c => rw [e] at h; exact fun H' e1 => h σ H' fp O (S.grow e1) (gh_mono (fun a o _ q => e1 a o q) fun a q => .inl q)
  | no => rw [e] at h; exact h
  | ok t =>
    rw [e] at h
    simp only [onR_ok] at h
    intro v H1 ⟨e1, fq, nd, fr, rt⟩
    have S1 := S.toStt.add e1 fq fr (RT.own t v fq rt)
    by_cases hc : (noV t && decide (i < en.length)) = true
    · rw [if_pos hc] at h
      rw [Bool.and_eq_true, decide_eq_true_eq] at hc
      obtain ⟨fq', nd', sub, rt'⟩ := land b S1.wf (fun a ha => S.toStt.fresh (fr a ha)) nd rt
      have S2 := S.toStt.add e1 fq' (fun a ha => fr a (sub a ha)) (RT.own _ v fq' rt')
      have n' : noV (frzIf b t) = true := by
        unfold frzIf
        split
        · exact frz_noV hc.1
        · exact hc.1
      refine h _ H1 _ _ (StS.put ⟨S2, S.nv⟩ i fq' nd' (fun a ha => .inr ha) (fun k a _ ha z => ?_) rt' hc.2 n') ?_
      · exact S.toStt.fresh (fr a (sub a ha)) (S.toStt.fo k a z)
      · exact gh_mono (fun a o _ q => e1 a o q) fun a q => q.imp id fun z => fr a (sub a z)
    · rw [if_neg hc] at h
      exact h.elim
-- a, b = e
def dUnp (b : Bool) (i j : Nat) (fa : En → Rs Tr) : DenS := fun en => onR (fa en) en fun t => match kids t with
  | some (false, [x, y]) => if noV x && noV y && clean x && clean y && decide (i < en.length) && decide (j < en.length) && decide (i ≠ j) then (match data x, data y with
    | some dx, some dy => .nx ((en.set i (some (.d dx))).set j (some (.d dy)))
    | _, _ => .no) else .no
  | _ => .no
theorem ts_unp {b : Bool} {i j : Nat} {fa : En → Rs Tr} (h : tS K W (dUnp b i j fa) D σ H) : tAsg (tM K W fa) (L2.gTup K 2 (gCons (gName i) (gCons (gName j) gNil))) D σ H := by
  obtain ⟨F, en, fp, O, S, h⟩ := h
  refine ⟨F, en, fp, O, S.toStt, ?_⟩
  unfold dUnp at h
  cases e : fa en with
  | er c => rw [e] at h; exact fun H' e1 => h σ H' fp O (S.grow e1) (gh_mono (fun a o _ q => e1 a o q) fun a q => .inl q)
  | no => rw [e] at h; exact h
  | ok t =>
    rw [e] at h
    simp only [onR_ok] at h
    intro v H1 ⟨e1, fq, nd, fr, rt⟩
    have S1 := S.toStt.add e1 fq fr (RT.own t v fq rt)
    split at h
    · rename_i x y hk
      split at h
      · rename_i hc
        simp only [Bool.and_eq_true, decide_eq_true_eq] at hc
        obtain ⟨⟨⟨⟨⟨⟨c1, c2⟩, c3⟩, c4⟩, c5⟩, c6⟩, c7⟩ := hc
        split at h
        · rename_i dx dy hx hy
          obtain ⟨p, vs, f, rfl, -, h2, h3, h4⟩ := RT.kids S1.wf rt hk
          obtain ⟨vx, vy, f1, f2, rfl, rfl, r1, r2⟩ := rts2 h3
          have frz1 : ∀ a ∈ f1, a ∈ fq := fun a ha => h4.subset (List.mem_append_left _ ha)
          have frz2 : ∀ a ∈ f2, a ∈ fq := fun a ha => h4.subset (List.mem_append_right _ ha)
          have g1 : Exn (gh F (fun a => O a ∨ a ∈ fq) H1) (gh F O H1) := gh_mono (fun _ _ _ q => q) fun a q => .inl (.inl q)
          have k1 : ∀ a ∈ fq, ∀ o, H1 a = some o → gh F O H1 a = some o := fun a ha o q => gh_new q (S.toStt.fresh (fr a ha)) (S1.nw a (.inr ha))
          have q1 := RT.freeze g1 x vx f1 dx (fun a ha => k1 a (frz1 a ha)) c3 hx r1
          have q2 := RT.freeze g1 y vy f2 dy (fun a ha => k1 a (frz2 a ha)) c4 hy r2
          have Sg := S.grow e1
          have A1 := Sg.put (t := .d dx) (v := vx) i [] List.nodup_nil (fun _ h => by cases h) (fun _ _ _ h => by cases h) ⟨rfl, q1⟩ c5 rfl
          have A2 := A1.put (t := .d dy) (v := vy) j [] List.nodup_nil (fun _ h => by cases h) (fun _ _ _ h => by cases h) ⟨rfl, q2⟩ (by rw [List.length_set]; exact c6) rfl
          refine ⟨p, [vx, vy], rfl, .inl (.inl (h2 rfl)), rfl, vx, [vy], rfl, vy, [], rfl, rfl, ?_⟩
          exact h _ H1 _ _ A2 (gh_mono (fun a o _ q => e1 a o q) fun a q => .inl q)
        · exact h.elim
      · exact h.elim
    · exact h.elim
end

/-! ### expressions that take from the slots -/
section
variable {K : PySem.W.Frag} {W : WW} {F H H' H1 G G' G0 : Hp} {en en' : En} {σ : L2.St} {fp : Nat → List Addr} {O O' : Addr → Prop} {t : Tr} {v : V} {D : Ends}
abbrev DenX := En → Rs (Tr × En)
abbrev DenXs := En → Rs (List Tr × En)
-- what follows a taking expression: O grows by what is new, fq is the value's part
structure TkOk (K : PySem.W.Frag) (F : Hp) (fp : Nat → List Addr) (O : Addr → Prop) (H : Hp) (en' : En) (σ : L2.St) (H' : Hp) (fp' : Nat → List Addr) (O' : Addr → Prop) (fq : List Addr) : Prop where
  ex : Exn H H'
  st : StS K F en' σ H' fp' O'
  nd : fq.Nodup
  dj : ∀ i a, a ∈ fq → a ∉ fp' i
  up : ∀ a, O a → O' a
  fo : ∀ a ∈ fq, O' a
  nw : ∀ a, O' a → O a ∨ H a = none
  sr : ∀ a ∈ fq, (∃ i, a ∈ fp i) ∨ H a = none
  ke : ∀ i a, a ∈ fp' i → a ∈ fp i
def tX (K : PySem.W.Frag) (W : WW) (g : DenX) : TE := fun σ H Q => ∃ F en fp O, StS K F en σ H fp O ∧ match g en with
  | .ok (t, en') => ∀ v H' fp' O' fq, TkOk K F fp O H en' σ H' fp' O' fq → RT K (gh F O' H') H' F t v fq → Q v H'
  | .er c => ∀ H', Exn H H' → W c σ H'
  | .no => False
def tXA (K : PySem.W.Frag) (W : WW) (g : DenXs) : TA := fun σ H Q => ∃ F en fp O, StS K F en σ H fp O ∧ match g en with
  | .ok (ts, en') => ∀ vs H' fp' O' fq, TkOk K F fp O H en' σ H' fp' O' fq → RTs K (gh F O' H') H' F ts vs fq → Q vs H'
  | .er c => ∀ H', Exn H H' → W c σ H'
  | .no => False
abbrev SndX (X : Cx) (W : WW) (e : Expr) (g : DenX) : Prop := PE X e (tX X.K W g)
def dLift (fa : En → Rs Tr) : DenX := fun en => (fa en).bind fun t => .ok (t, en)
theorem tx_lift {fa : En → Rs Tr} {Q : VK} (h : tX K W (dLift fa) σ H Q) : tM K W fa σ H Q := by
  obtain ⟨F, en, fp, O, S, h⟩ := h
  refine ⟨F, en, fp, O, S.toStt, ?_⟩
  unfold dLift at h
  cases e : fa en with
  | er c => rw [e] at h; exact h
  | no => rw [e] at h; exact h
  | ok t =>
    rw [e] at h
    simp only [Rs.bind_ok'] at h
    intro v H1 ⟨e1, fq, nd, fr, rt⟩
    have S1 := S.toStt.add e1 fq fr (RT.own t v fq rt)
    exact h v H1 fp _ fq ⟨e1, ⟨S1, S.nv⟩, nd, fun i a ha z => S.toStt.fresh (fr a ha) (S.toStt.fo i a z), fun a q => .inl q, fun a ha => .inr ha, fun a q => q.imp id (fr a), fun a ha => .inr (fr a ha), fun _ _ q => q⟩ rt
-- a name, taken
def own? : Tr → Bool
  | .ol _ => true
  | .tp _ => true
  | .dt _ => true
  | _ => false
def dMove (j : Nat) : DenX := fun en => match en[j]? with
  | some (some t) => if own? t then .ok (t, en.set j none) else .ok (t, en)
  | _ => .no
theorem tx_move {j : Nat} {Q : VK} (h : tX K W (dMove j) σ H Q) : tVar j σ H Q := by
  obtain ⟨F, en, fp, O, S, h⟩ := h
  unfold dMove at h
  split at h
  · rename_i t en' e
    split at e
    · rename_i t' hj
      obtain ⟨v, hv, r⟩ := S.sl j t' hj
      refine ⟨v, hv, ?_⟩
      split at e
      · cases e
        refine h v H (fun i => if i = j then [] else fp i) O (fp j) ⟨Exn.refl _, ⟨S.toStt.hush j, fun i u q => ?_⟩, S.nd j, fun i a ha z => ?_, fun _ q => q, fun a ha => S.fo j a ha, fun a q => .inl q, fun a ha => .inl ⟨j, ha⟩, fun i a q => by
          by_cases z : i = j
          · rw [if_pos z] at q; cases q
          · rw [if_neg z] at q; exact q⟩ r
        · by_cases z : i = j
          · subst z
            by_cases hi : i < en.length
            · rw [List.getElem?_set_self hi] at q; cases q
            · rw [List.getElem?_eq_none (by rw [List.length_set]; omega)] at q; cases q
          · rw [List.getElem?_set_ne (Ne.symm z)] at q
            exact S.nv i u q
        · by_cases q : i = j
          · rw [if_pos q] at z; cases z
          · rw [if_neg q] at z
            exact q (S.dj i j a z ha)
      · rename_i hn
        cases e
        have f0 : fp j = [] := by
          cases t with
          | d x => exact r.1
          | e x => exact r.1
          | v x => exact r.1
          | s x => exact r.1
          | dt _ => exact absurd rfl hn
          | ol _ => exact absurd rfl hn
          | tp _ => exact absurd rfl hn
        rw [f0] at r
        exact h v H fp O [] ⟨Exn.refl _, S, List.nodup_nil, (fun i a ha => by cases ha), fun _ q => q, (fun a ha => by cases ha), fun a q => .inl q, (fun a ha => by cases ha), fun _ _ q => q⟩ r
    · cases e
  · rename_i c e
    split at e
    · split at e <;> cases e
    · cases e
  · exact h.elim
-- several, into a tuple
def dXNil : DenXs := fun en => .ok ([], en)
def dXCons (g : DenX) (gs : DenXs) : DenXs := fun en => (g en).bind fun a => (gs a.2).bind fun b => .ok (a.1 :: b.1, b.2)
theorem txa_nil {Q : List V → Hp → Prop} (h : tXA K W dXNil σ H Q) : tNil σ H Q := by
  obtain ⟨F, en, fp, O, S, h⟩ := h
  exact h [] H fp O [] ⟨Exn.refl _, S, List.nodup_nil, (fun i a ha => by cases ha), fun _ q => q, (fun a ha => by cases ha), fun a q => .inl q, (fun a ha => by cases ha), fun _ _ q => q⟩ ⟨rfl, rfl⟩
-- P: a thing held while the rest is evaluated
theorem txa_cons {g : DenX} {gs : DenXs} {Q : List V → Hp → Prop} (h : tXA K W (dXCons g gs) σ H Q) : tCons (tX K W g) (tXA K W gs) σ H Q := by
  obtain ⟨F, en, fp, O, S, h⟩ := h
  refine ⟨F, en, fp, O, S, ?_⟩
  unfold dXCons at h
  cases e : g en with
  | er c => rw [e] at h; exact h
  | no => rw [e] at h; exact h
  | ok a =>
    obtain ⟨t, en1⟩ := a
    rw [e] at h
    simp only [Rs.bind_ok'] at h
    intro v H1 fp1 O1 fq T1 r1
    refine ⟨F, en1, fp1, O1, T1.st, ?_⟩
    cases e2 : gs en1 with
    | er c => rw [e2] at h; exact fun H2 x2 => h H2 (T1.ex.trans x2)
    | no => rw [e2] at h; exact h
    | ok b =>
      obtain ⟨ts, en2⟩ := b
      rw [e2] at h
      simp only [Rs.bind_ok'] at h
      intro vs H2 fp2 O2 fq2 T2 r2
      have ow : ∀ a ∈ fq, ∃ o, H1 a = some o ∧ IsOwn o := fun a ha => T1.st.own a (T1.fo a ha)
      have dis : ∀ a ∈ fq, ∀ b ∈ fq2, a ≠ b := fun a ha b hb z => by
        subst z
        rcases T2.sr a hb with ⟨i, hi⟩ | hn
        · exact T1.dj i a ha hi
        · obtain ⟨o, ho, _⟩ := ow a ha
          rw [hn] at ho; cases ho
      refine h (v :: vs) H2 fp2 O2 (fq ++ fq2) ⟨T1.ex.trans T2.ex, T2.st, List.nodup_append.mpr ⟨T1.nd, T2.nd, dis⟩, fun i a ha z => ?_, fun a q => T2.up a (T1.up a q), fun a ha => ?_, fun a q => ?_, fun a ha => ?_, fun i a q => T1.ke i a (T2.ke i a q)⟩ ⟨v, vs, fq, fq2, rfl, rfl, ?_, r2⟩
      · rcases List.mem_append.mp ha with q | q
        · exact T1.dj i a q (T2.ke i a z)
        · exact T2.dj i a q z
      · rcases List.mem_append.mp ha with q | q
        · exact T2.up a (T1.fo a q)
        · exact T2.fo a q
      · rcases T2.nw a q with q | q
        · exact T1.nw a q
        · exact .inr (T1.ex.back q)
      · rcases List.mem_append.mp ha with q | q
        · exact T1.sr a q
        · rcases T2.sr a q with ⟨i, hi⟩ | q
          · exact .inl ⟨i, T1.ke i a hi⟩
          · exact .inr (T1.ex.back q)
      · exact RT.mono (gh_mono (fun a o _ q => T2.ex a o q) T2.nw) T2.ex (Exn.refl _) t v fq r1
-- a display, the values told by a rule
def dXTup (gs : DenXs) : DenX := fun en => (gs en).bind fun a => if a.1.length ≤ 100000 then .ok (mkTp a.1, a.2) else .no
theorem tx_tup {gs : DenXs} {Q : VK} (h : tX K W (dXTup gs) σ H Q) : tTup (tXA K W gs) σ H Q := by
  obtain ⟨F, en, fp, O, S, h⟩ := h
  refine ⟨F, en, fp, O, S, ?_⟩
  unfold dXTup at h
  cases e : gs en with
  | er c => rw [e] at h; exact h
  | no => rw [e] at h; exact h
  | ok a =>
    obtain ⟨ts, en1⟩ := a
    rw [e] at h
    simp only [Rs.bind_ok'] at h
    intro vs H1 fp1 O1 fq T1 r1
    by_cases hl : ts.length ≤ 100000
    · rw [if_pos hl] at h
      refine ⟨by rw [r1.length]; exact sz _ hl, fun p hp => ?_⟩
      have hx : Exn H1 (upd H1 p (.tup vs)) := Exn.new hp
      have np : ¬ O1 p := T1.st.toStt.fresh hp
      exact h (.ref p) _ fp1 O1 fq ⟨T1.ex.trans hx, T1.st.grow hx, T1.nd, T1.dj, T1.up, T1.fo, T1.nw, T1.sr, T1.ke⟩ (RT.mkTp (RTs.mono (gh_mono (fun a o _ q => hx a o q) fun a q => .inl q) hx (Exn.refl _) ts vs fq r1) (gh_tup upd_same np))
    · rw [if_neg hl] at h
      exact h.elim

/-! ### return -/
def dRet (g : DenX) : DenS := fun en => onR (g en) en fun a => .rt a.1 a.2
theorem gh_grow (e : Exn H H') : Exn (gh F O H) (gh F O H') := gh_mono (fun a o _ q => e a o q) fun a q => .inl q
theorem ts_ret {g : DenX} (h : tS K W (dRet g) D σ H) : tRet (tX K W g) D σ H := by
  obtain ⟨F, en, fp, O, S, h⟩ := h
  refine ⟨F, en, fp, O, S, ?_⟩
  unfold dRet at h
  cases e : g en with
  | er c => rw [e] at h; exact fun H' e1 => h σ H' fp O (S.grow e1) (gh_grow e1)
  | no => rw [e] at h; exact h
  | ok a =>
    obtain ⟨t, en1⟩ := a
    rw [e] at h
    exact fun v H1 fp1 O1 fq T1 r1 => h v σ H1 fp1 O1 fq T1.st (gh_mono (fun a o _ q => T1.ex a o q) T1.nw) T1.nd T1.fo T1.dj r1
def dRetN : DenS := fun en => .rt (.d .none) en
theorem ts_retN (h : tS K W dRetN D σ H) : tRetN D σ H := by
  obtain ⟨F, en, fp, O, S, h⟩ := h
  exact h .non σ H fp O [] S (Exn.refl _) List.nodup_nil (fun a ha => by cases ha) (fun i a ha => by cases ha) ⟨rfl, rfl⟩
-- x = e, taking
def dSetX (b : Bool) (i : Nat) (g : DenX) : DenS := fun en => onR (g en) en fun a => if noV a.1 && decide (i < a.2.length) then .nx (a.2.set i (some (frzIf b a.1))) else .no
theorem ts_setX {b : Bool} {i : Nat} {g : DenX} (h : tS K W (dSetX b i g) D σ H) : tAsg (tX K W g) (gName i) D σ H := by
  obtain ⟨F, en, fp, O, S, h⟩ := h
  refine ⟨F, en, fp, O, S, ?_⟩
  unfold dSetX at h
  cases e : g en with
  | er c => rw [e] at h; exact fun H' e1 => h σ H' fp O (S.grow e1) (gh_grow e1)
  | no => rw [e] at h; exact h
  | ok a =>
    obtain ⟨t, en1⟩ := a
    rw [e] at h
    simp only [onR_ok] at h
    intro v H1 fp1 O1 fq T1 r1
    by_cases hc : (noV t && decide (i < en1.length)) = true
    · rw [if_pos hc] at h
      rw [Bool.and_eq_true, decide_eq_true_eq] at hc
      -- what is owned without the value
      have w0 : ∀ a, O1 a ∧ a ∉ fq → O1 a := fun _ q => q.1
      have S0 : Stt K F en1 σ H1 fp1 (fun a => O1 a ∧ a ∉ fq) := by
        have g1 : Exn (gh F O1 H1) (gh F (fun a => O1 a ∧ a ∉ fq) H1) := gh_mono (fun _ _ _ q => q) fun a q => .inl q.1
        refine ⟨T1.st.len, fun i t h => ?_, T1.st.nd, T1.st.dj, fun i a h => ⟨T1.st.fo i a h, fun z => T1.dj i a z h⟩, fun a h => T1.st.own a h.1, fun a h => T1.st.nw a h.1, T1.st.ex⟩
        obtain ⟨w, q1, q2⟩ := T1.st.sl i t h
        exact ⟨w, q1, RT.mono g1 (Exn.refl _) (Exn.refl _) t w _ q2⟩
      have eqO : ∀ a, ((O1 a ∧ a ∉ fq) ∨ a ∈ fq) ↔ O1 a := fun a => ⟨fun q => q.elim (·.1) (T1.fo a), fun q => (Classical.em (a ∈ fq)).elim .inr fun z => .inl ⟨q, z⟩⟩
      have wf : Wf F (fun a => (O1 a ∧ a ∉ fq) ∨ a ∈ fq) H1 := ⟨fun a q => T1.st.own a ((eqO a).mp q), fun a q => T1.st.nw a ((eqO a).mp q), T1.st.ex⟩
      obtain ⟨fq', nd', sub, rt'⟩ := land b wf (fun a ha z => z.2 ha) T1.nd (RT.mono (gh_mono (fun _ _ _ q => q) fun a q => .inl ((eqO a).mp q)) (Exn.refl _) (Exn.refl _) t v fq r1)
      have S2 : Stt K F en1 σ H1 fp1 (fun a => (O1 a ∧ a ∉ fq) ∨ a ∈ fq') := by
        have g1 : Exn (gh F O1 H1) (gh F (fun a => (O1 a ∧ a ∉ fq) ∨ a ∈ fq') H1) := gh_mono (fun _ _ _ q => q) fun a q => .inl (q.elim (·.1) fun z => T1.fo a (sub a z))
        refine ⟨T1.st.len, fun i t h => ?_, T1.st.nd, T1.st.dj, fun i a h => .inl (S0.fo i a h), fun a h => h.elim (S0.own a) fun z => T1.st.own a (T1.fo a (sub a z)), fun a h => h.elim (S0.nw a) fun z => T1.st.nw a (T1.fo a (sub a z)), T1.st.ex⟩
        obtain ⟨w, q1, q2⟩ := T1.st.sl i t h
        exact ⟨w, q1, RT.mono g1 (Exn.refl _) (Exn.refl _) t w _ q2⟩
      have n' : noV (frzIf b t) = true := by
        unfold frzIf
        split
        · exact frz_noV hc.1
        · exact hc.1
      refine h _ H1 _ _ (StS.put ⟨S2, T1.st.nv⟩ i fq' nd' (fun a ha => .inr ha) (fun k a _ ha z => T1.dj k a (sub a ha) z) rt' hc.2 n') ?_
      exact gh_mono (fun a o _ q => T1.ex a o q) fun a q => q.elim (fun q => T1.nw a q.1) fun z => T1.nw a (T1.fo a (sub a z))
    · rw [if_neg hc] at h
      exact h.elim
end
end RP
namespace RP
open PySem L2

section
variable {K : PySem.W.Frag} {W : WW} {F H H' H1 G G' G0 : Hp} {en en' : En} {σ : L2.St} {fp : Nat → List Addr} {O O' : Addr → Prop} {t : Tr} {v : V} {D : Ends}

/-! ### nodes by their path -/
def nodeT : Tr → List Nat → Option Tr
  | t, [] => some t
  | .ol ts, j :: js => (ts[j]?).bind fun u => nodeT u js
  | .tp ts, j :: js => (ts[j]?).bind fun u => nodeT u js
  | _, _ :: _ => none
def setN : Tr → List Nat → Tr → Option Tr
  | _, [], u => some u
  | .ol ts, j :: js, u => (ts[j]?).bind fun x => (setN x js u).map fun y => .ol (ts.set j y)
  | .tp ts, j :: js, u => (ts[j]?).bind fun x => (setN x js u).map fun y => .tp (ts.set j y)
  | _, _ :: _, _ => none
def VP (H : Hp) : V → List Nat → V → Prop
  | v, [], w => v = w
  | v, j :: js, w => ∃ p vs x, v = .ref p ∧ (H p = some (.lst vs) ∨ H p = some (.tup vs)) ∧ vs[j]? = some x ∧ VP H x js w
theorem VP.mono (e : Exn H H') : ∀ {v : V} (js : List Nat) {w : V}, VP H v js w → VP H' v js w
  | _, [], _, h => h
  | v, j :: js, w, ⟨p, vs, x, e1, e2, e3, e4⟩ => ⟨p, vs, x, e1, e2.imp (e _ _) (e _ _), e3, VP.mono e js e4⟩
theorem VP.snoc {j : Nat} {p : Addr} {vs : List V} {x : V} : ∀ {v : V} (js : List Nat), VP H v js (.ref p) → (H p = some (.lst vs) ∨ H p = some (.tup vs)) → vs[j]? = some x → VP H v (js ++ [j]) x
  | v, [], h, h1, h2 => ⟨p, vs, x, h, h1, h2, rfl⟩
  | v, k :: js, ⟨q, us, y, e1, e2, e3, e4⟩, h1, h2 => ⟨q, us, y, e1, e2, e3, VP.snoc js e4 h1 h2⟩
theorem nav (g : Exn G H) : ∀ (js : List Nat) {t : Tr} {v : V} {f : List Addr} {u : Tr} {w : V}, RT K G H F t v f → nodeT t js = some u → VP H v js w → ∃ f', f'.Sublist f ∧ RT K G H F u w f'
  | [], t, v, f, u, w, r, h, p => by
    cases h
    cases p
    exact ⟨f, List.Sublist.refl _, r⟩
  | j :: js, t, v, f, u, w, r, h, ⟨q, us, y, e1, e2, e3, e4⟩ => by
    cases t with
    | ol ts =>
      obtain ⟨p, vs, fps, h1, h2, h3, h4⟩ := r
      obtain ⟨x, hx, h5⟩ := Option.bind_eq_some_iff.mp h
      subst e1 h2
      cases h1
      rcases e2 with e2 | e2
      · rw [h3] at e2
        cases e2
        obtain ⟨z, fz, z1, z2, z3⟩ := RTs.get h4 hx
        rw [e3] at z1
        cases z1
        obtain ⟨f', a, b⟩ := nav g js z3 h5 e4
        exact ⟨f', (a.trans z2).trans (List.sublist_cons_self _ _), b⟩
      · rw [h3] at e2; cases e2
    | tp ts =>
      obtain ⟨p, vs, h1, h2, h4⟩ := r
      obtain ⟨x, hx, h5⟩ := Option.bind_eq_some_iff.mp h
      subst e1
      cases h1
      rcases e2 with e2 | e2
      · rw [g _ _ h2] at e2; cases e2
      · rw [g _ _ h2] at e2
        cases e2
        obtain ⟨z, fz, z1, z2, z3⟩ := RTs.get h4 hx
        rw [e3] at z1
        cases z1
        obtain ⟨f', a, b⟩ := nav g js z3 h5 e4
        exact ⟨f', a.trans z2, b⟩
    | d _ => cases h
    | e _ => cases h
    | v _ => cases h
    | s _ => cases h
    | dt _ => cases h
-- one child exchanged
theorem RTs.split {G H F : Hp} : ∀ {ts : List Tr} {vs : List V} {f : List Addr} {j : Nat} {u : Tr}, RTs K G H F ts vs f → ts[j]? = some u →
    ∃ x f1 fj f2, vs[j]? = some x ∧ f = f1 ++ (fj ++ f2) ∧ RT K G H F u x fj ∧
      ∀ {G' H' : Hp} (u' : Tr) (fj' : List Addr), Exn G G' → (∀ a, a ∈ f1 ∨ a ∈ f2 → H' a = H a) → noVs ts = true → RT K G' H' F u' x fj' → RTs K G' H' F (ts.set j u') vs (f1 ++ (fj' ++ f2))
  | [], _, _, _, _, _, e => by simp at e
  | t :: ts, _, _, 0, u, ⟨v, vs', f1, f2, e1, e2, e3, e4⟩, e => by
    have e' : t = u := by simpa using e
    subst e' e1 e2
    refine ⟨v, [], f1, f2, rfl, rfl, e3, fun {G' H'} u' fj' g k n r => ?_⟩
    have n' : (noV t && noVs ts) = true := n
    rw [Bool.and_eq_true] at n'
    exact ⟨v, vs', fj', f2, rfl, rfl, r, RTs.frame g ts vs' f2 (fun a ha => k a (.inr ha)) n'.2 e4⟩
  | t :: ts, _, _, j + 1, u, ⟨v, vs', f1, f2, e1, e2, e3, e4⟩, e => by
    subst e1 e2
    obtain ⟨x, g1, gj, g2, a1, a2, a3, a4⟩ := RTs.split (j := j) (u := u) e4 (by simpa using e)
    subst a2
    refine ⟨x, f1 ++ g1, gj, g2, by simpa using a1, by rw [List.append_assoc], a3, fun {G' H'} u' fj' g k n r => ?_⟩
    have n' : (noV t && noVs ts) = true := n
    rw [Bool.and_eq_true] at n'
    refine ⟨v, vs', f1, g1 ++ (fj' ++ g2), rfl, by rw [List.append_assoc], RT.frame g t v f1 (fun a ha => k a (.inl (List.mem_append_left _ ha))) n'.1 e3, ?_⟩
    exact a4 u' fj' g (fun a ha => k a (ha.imp (fun q => List.mem_append_right _ q) id)) n'.2 r
theorem noVs_set {u : Tr} (hu : noV u = true) : ∀ {ts : List Tr} (j : Nat), noVs ts = true → noVs (ts.set j u) = true
  | [], _, _ => rfl
  | t :: ts, 0, n => by
    have n' : (noV t && noVs ts) = true := n
    rw [Bool.and_eq_true] at n'
    show (noV u && noVs ts) = true
    rw [hu, n'.2]; rfl
  | t :: ts, j + 1, n => by
    have n' : (noV t && noVs ts) = true := n
    rw [Bool.and_eq_true] at n'
    show (noV t && noVs (ts.set j u)) = true
    rw [n'.1, noVs_set hu j n'.2]; rfl
-- the list at p is changed: the tree follows
theorem RT.change {ts ts' : List Tr} {vs vs' : List V} {p : Addr} {fq : List Addr} (gG : Exn G H) (g : Exn G G') (hp : H p = some (.lst vs)) (hG : G' p = none ∨ True) (nv' : noVs ts' = true) :
    ∀ (js : List Nat) {t : Tr} {v : V} {f : List Addr}, RT K G H F t v f → f.Nodup → (∀ a ∈ fq, a ∉ f) → noV t = true → nodeT t js = some (.ol ts) → VP H v js (.ref p) →
      (∀ fps, RTs K G H F ts vs fps → p ∉ fps → fps.Nodup → (∀ a ∈ fps, a ∈ f) → ∃ fps', RTs K G' (upd H p (.lst vs')) F ts' vs' fps' ∧ fps'.Nodup ∧ p ∉ fps' ∧ ∀ a ∈ fps', a ∈ fps ∨ a ∈ fq) →
      p ∈ f ∧ ∃ t' f', setN t js (.ol ts') = some t' ∧ RT K G' (upd H p (.lst vs')) F t' v f' ∧ f'.Nodup ∧ (∀ a ∈ f', a ∈ f ∨ a ∈ fq) ∧ noV t' = true
  | [], t, v, f, r, nd, dj, nv, hn, hv, hk => by
    cases hn
    obtain ⟨q, us, fps, e1, e2, e3, e4⟩ := r
    have ev : v = .ref p := hv
    rw [e1] at ev
    cases ev
    rw [hp] at e3
    cases e3
    subst e2
    rw [List.nodup_cons] at nd
    obtain ⟨fps', a1, a2, a3, a4⟩ := hk fps e4 nd.1 nd.2 fun a ha => List.mem_cons_of_mem _ ha
    refine ⟨List.mem_cons_self, .ol ts', p :: fps', rfl, ⟨p, vs', fps', e1, rfl, upd_same, a1⟩, List.nodup_cons.mpr ⟨a3, a2⟩, fun a ha => ?_, nv'⟩
    rcases List.mem_cons.mp ha with rfl | ha
    · exact .inl List.mem_cons_self
    · exact (a4 a ha).imp (fun q => List.mem_cons_of_mem _ q) id
  | j :: js, t, v, f, r, nd, dj, nv, hn, ⟨q, us, y, e1, e2, e3, e4⟩, hk => by
    cases t with
    | ol us2 =>
      obtain ⟨q2, ws, fps, h1, h2, h3, h4⟩ := r
      obtain ⟨x, hx, h5⟩ := Option.bind_eq_some_iff.mp hn
      subst e1 h2
      cases h1
      have e2' : us = ws := by
        rcases e2 with e2 | e2
        · rw [h3] at e2; cases e2; rfl
        · rw [h3] at e2; cases e2
      subst e2'
      obtain ⟨z, f1, fj, f2, a1, a2, a3, a4⟩ := RTs.split h4 hx
      rw [e3] at a1
      cases a1
      subst a2
      rw [List.nodup_cons] at nd
      obtain ⟨nq, nd1⟩ := nd
      obtain ⟨nd1, nd2, dis⟩ := List.nodup_append.mp nd1
      obtain ⟨nd2, nd3, dis2⟩ := List.nodup_append.mp nd2
      obtain ⟨pin, t', f', b1, b2, b3, b4, b5⟩ := RT.change gG g hp hG nv' js a3 nd2 (fun a ha z => dj a ha (List.mem_cons_of_mem _ (List.mem_append_right _ (List.mem_append_left _ z)))) (noVs_mem nv x (List.mem_of_getElem? hx)) h5 e4
        (fun fps r1 r2 r3 r4 => hk fps r1 r2 r3 fun a ha => List.mem_cons_of_mem _ (List.mem_append_right _ (List.mem_append_left _ (r4 a ha))))
      have npq : q ≠ p := fun z => nq (by rw [z]; exact List.mem_append_right _ (List.mem_append_left _ pin))
      have keep : ∀ a, a ∈ f1 ∨ a ∈ f2 → upd H p (.lst vs') a = H a := fun a ha => upd_ne fun z => by
        subst z
        rcases ha with ha | ha
        · exact dis a ha a (List.mem_append_left _ pin) rfl
        · exact dis2 a pin a ha rfl
      have sub : ∀ a ∈ f1 ++ (f' ++ f2), a ∈ f1 ++ (fj ++ f2) ∨ a ∈ fq := fun a ha => by
        rcases List.mem_append.mp ha with z | z
        · exact .inl (List.mem_append_left _ z)
        · rcases List.mem_append.mp z with z | z
          · rcases b4 a z with z | z
            · exact .inl (List.mem_append_right _ (List.mem_append_left _ z))
            · exact .inr z
          · exact .inl (List.mem_append_right _ (List.mem_append_right _ z))
      refine ⟨List.mem_cons_of_mem _ (List.mem_append_right _ (List.mem_append_left _ pin)), .ol (us2.set j t'), q :: (f1 ++ (f' ++ f2)), ?_, ⟨q, us, f1 ++ (f' ++ f2), rfl, rfl, by rw [upd_ne npq]; exact h3, a4 t' f' g keep nv b2⟩, ?_, fun a ha => ?_, noVs_set b5 j nv⟩
      · show ((us2[j]?).bind fun x => (setN x js (Tr.ol ts')).map fun y => Tr.ol (us2.set j y)) = _
        rw [hx]
        show ((setN x js (.ol ts')).map fun y => Tr.ol (us2.set j y)) = _
        rw [b1]; rfl
      · have nf' : ∀ a ∈ f', ∀ b, (b ∈ f1 ∨ b ∈ f2 ∨ b = q) → a ≠ b := fun a ha b hb z => by
          subst z
          rcases b4 a ha with y | y
          · rcases hb with hb | hb | hb
            · exact dis a hb a (List.mem_append_left _ y) rfl
            · exact dis2 a y a hb rfl
            · exact nq (by rw [← hb]; exact List.mem_append_right _ (List.mem_append_left _ y))
          · refine dj a y ?_
            rcases hb with hb | hb | hb
            · exact List.mem_cons_of_mem _ (List.mem_append_left _ hb)
            · exact List.mem_cons_of_mem _ (List.mem_append_right _ (List.mem_append_right _ hb))
            · rw [hb]; exact List.mem_cons_self
        refine List.nodup_cons.mpr ⟨fun z => ?_, List.nodup_append.mpr ⟨nd1, List.nodup_append.mpr ⟨b3, nd3, fun a ha b hb => nf' a ha b (.inr (.inl hb))⟩, fun a ha b hb z => ?_⟩⟩
        · rcases List.mem_append.mp z with z | z
          · exact nq (List.mem_append_left _ z)
          · rcases List.mem_append.mp z with z | z
            · exact nf' q z q (.inr (.inr rfl)) rfl
            · exact nq (List.mem_append_right _ (List.mem_append_right _ z))
        · rcases List.mem_append.mp hb with hb | hb
          · exact nf' b hb a (.inl ha) z.symm
          · exact dis a ha b (List.mem_append_right _ hb) z
      · rcases List.mem_cons.mp ha with rfl | ha
        · exact .inl List.mem_cons_self
        · exact (sub a ha).imp (fun z => List.mem_cons_of_mem _ z) id
    | tp us2 =>
      obtain ⟨q2, ws, h1, h2, h4⟩ := r
      obtain ⟨x, hx, h5⟩ := Option.bind_eq_some_iff.mp hn
      subst e1
      cases h1
      have e2' : us = ws := by
        rcases e2 with e2 | e2
        · rw [gG _ _ h2] at e2; cases e2
        · rw [gG _ _ h2] at e2; cases e2; rfl
      subst e2'
      obtain ⟨z, f1, fj, f2, a1, a2, a3, a4⟩ := RTs.split h4 hx
      rw [e3] at a1
      cases a1
      subst a2
      obtain ⟨nd1, nd2, dis⟩ := List.nodup_append.mp nd
      obtain ⟨nd2, nd3, dis2⟩ := List.nodup_append.mp nd2
      obtain ⟨pin, t', f', b1, b2, b3, b4, b5⟩ := RT.change gG g hp hG nv' js a3 nd2 (fun a ha z => dj a ha (List.mem_append_right _ (List.mem_append_left _ z))) (noVs_mem nv x (List.mem_of_getElem? hx)) h5 e4
        (fun fps r1 r2 r3 r4 => hk fps r1 r2 r3 fun a ha => List.mem_append_right _ (List.mem_append_left _ (r4 a ha)))
      have keep : ∀ a, a ∈ f1 ∨ a ∈ f2 → upd H p (.lst vs') a = H a := fun a ha => upd_ne fun z => by
        subst z
        rcases ha with ha | ha
        · exact dis a ha a (List.mem_append_left _ pin) rfl
        · exact dis2 a pin a ha rfl
      refine ⟨List.mem_append_right _ (List.mem_append_left _ pin), .tp (us2.set j t'), f1 ++ (f' ++ f2), ?_, ⟨q, us, rfl, g _ _ h2, a4 t' f' g keep nv b2⟩, ?_, fun a ha => ?_, noVs_set b5 j nv⟩
      · show ((us2[j]?).bind fun x => (setN x js (Tr.ol ts')).map fun y => Tr.tp (us2.set j y)) = _
        rw [hx]
        show ((setN x js (.ol ts')).map fun y => Tr.tp (us2.set j y)) = _
        rw [b1]; rfl
      · have nf' : ∀ a ∈ f', ∀ b, (b ∈ f1 ∨ b ∈ f2) → a ≠ b := fun a ha b hb z => by
          subst z
          rcases b4 a ha with y | y
          · rcases hb with hb | hb
            · exact dis a hb a (List.mem_append_left _ y) rfl
            · exact dis2 a y a hb rfl
          · refine dj a y ?_
            rcases hb with hb | hb
            · exact List.mem_append_left _ hb
            · exact List.mem_append_right _ (List.mem_append_right _ hb)
        refine List.nodup_append.mpr ⟨nd1, List.nodup_append.mpr ⟨b3, nd3, fun a ha b hb => nf' a ha b (.inr hb)⟩, fun a ha b hb z => ?_⟩
        rcases List.mem_append.mp hb with hb | hb
        · exact nf' b hb a (.inl ha) z.symm
        · exact dis a ha b (List.mem_append_right _ hb) z
      · rcases List.mem_append.mp ha with z | z
        · exact .inl (List.mem_append_left _ z)
        · rcases List.mem_append.mp z with z | z
          · rcases b4 a z with z | z
            · exact .inl (List.mem_append_right _ (List.mem_append_left _ z))
            · exact .inr z
          · exact .inl (List.mem_append_right _ (List.mem_append_right _ z))
    | d _ => cases hn
    | e _ => cases hn
    | v _ => cases hn
    | s _ => cases hn
    | dt _ => cases hn
-- .. and the state
theorem StS.change {i : Nat} {js : List Nat} {ts ts' : List Tr} {vs vs' : List V} {p : Addr} {fq : List Addr} {v0 : V} (S : StS K F en σ H fp O) (hi : en[i]? = some (some t)) (hv : σ[i]? = some (some v0)) (hn : nodeT t js = some (.ol ts)) (hvp : VP H v0 js (.ref p))
    (hp : H p = some (.lst vs)) (fo : ∀ a ∈ fq, O a) (dj : ∀ k a, a ∈ fq → a ∉ fp k) (nv' : noVs ts' = true)
    (hk : ∀ fps, RTs K (gh F O H) H F ts vs fps → p ∉ fps → fps.Nodup → (∀ a ∈ fps, a ∈ fp i) → ∃ fps', RTs K (gh F O (upd H p (.lst vs'))) (upd H p (.lst vs')) F ts' vs' fps' ∧ fps'.Nodup ∧ p ∉ fps' ∧ ∀ a ∈ fps', a ∈ fps ∨ a ∈ fq) :
    O p ∧ ∃ t' fp', setN t js (.ol ts') = some t' ∧ StS K F (en.set i (some t')) σ (upd H p (.lst vs')) fp' O ∧ Exn (gh F O H) (gh F O (upd H p (.lst vs'))) := by
  obtain ⟨w, hw, r⟩ := S.sl i t hi
  rw [hv] at hw
  cases hw
  have pin0 : p ∈ fp i := by
    obtain ⟨f', q1, q2⟩ := nav gh_sub js r hn hvp
    obtain ⟨q, us, fps, e1, e2, _⟩ := q2
    cases e1
    exact q1.subset (by rw [e2]; exact List.mem_cons_self)
  have hO : O p := S.fo i p pin0
  have g : Exn (gh F O H) (gh F O (upd H p (.lst vs'))) := gh_mono (fun a o hn z => by rw [upd_ne fun q => hn (by rw [q]; exact hO)]; exact z) fun a q => .inl q
  obtain ⟨pin, t', f', a1, a2, a3, a4, a5⟩ := RT.change gh_sub g hp (.inr trivial) nv' js r (S.nd i) (fun a ha => dj i a ha) (S.nv i t hi) hn hvp hk
  refine ⟨hO, t', fun k => if k = i then f' else fp k, a1, ⟨⟨by rw [List.length_set]; exact S.len, fun k u h => ?_, fun k => ?_, fun k l a h1 h2 => ?_, fun k a h => ?_, fun a h => ?_, S.nw, fun a o h => ?_⟩, nv_set a5 S.nv⟩, g⟩
  · by_cases e : k = i
    · subst e
      rw [List.getElem?_set_self (List.getElem?_eq_some_iff.mp hi).1] at h
      cases h
      refine ⟨v0, hv, ?_⟩
      rw [if_pos rfl]
      exact a2
    · rw [List.getElem?_set_ne (Ne.symm e)] at h
      obtain ⟨x, h1, h2⟩ := S.sl k u h
      refine ⟨x, h1, ?_⟩
      rw [if_neg e]
      exact RT.frame g u x (fp k) (fun a ha => upd_ne fun z => e (S.dj k i a ha (by rw [z]; exact pin0))) (S.nv k u h) h2
  · split
    · exact a3
    · exact S.nd k
  · have out : ∀ m a, m ≠ i → a ∈ f' → a ∉ fp m := fun m a hm ha z => by
      rcases a4 a ha with q | q
      · exact hm (S.dj m i a z q)
      · exact dj m a q z
    by_cases e1 : k = i
    · by_cases e2 : l = i
      · rw [e1, e2]
      · rw [if_pos e1] at h1
        rw [if_neg e2] at h2
        exact absurd h2 (out l a e2 h1)
    · by_cases e2 : l = i
      · rw [if_neg e1] at h1
        rw [if_pos e2] at h2
        exact absurd h1 (out k a e1 h2)
      · rw [if_neg e1] at h1
        rw [if_neg e2] at h2
        exact S.dj k l a h1 h2
  · by_cases e : k = i
    · rw [if_pos e] at h
      rcases a4 a h with q | q
      · exact S.fo i a q
      · exact fo a q
    · rw [if_neg e] at h
      exact S.fo k a h
  · by_cases e : a = p
    · subst e
      exact ⟨_, upd_same, .inl ⟨_, rfl⟩⟩
    · rw [upd_ne e]
      exact S.own a h
  · rw [upd_ne fun z => by subst z; rw [S.nw a hO] at h; cases h]
    exact S.ex a o h

/-! ### paths as expressions -/
abbrev DenP := En → Rs (Nat × List Nat)
def tPt (K : PySem.W.Frag) (W : WW) (p : DenP) : TE := fun σ H Q => ∃ F en fp O, StS K F en σ H fp O ∧ match p en with
  | .ok (i, js) => ∀ w v0 H', Exn H H' → σ[i]? = some (some v0) → VP H' v0 js w → Q w H'
  | .er c => ∀ H', Exn H H' → W c σ H'
  | .no => False
abbrev SndP (X : Cx) (W : WW) (e : Expr) (p : DenP) : Prop := PE X e (tPt X.K W p)
def pN (i : Nat) : DenP := fun en => match en[i]? with
  | some (some _) => .ok (i, [])
  | _ => .no
theorem tp_name {i : Nat} {Q : VK} (h : tPt K W (pN i) σ H Q) : tVar i σ H Q := by
  obtain ⟨F, en, fp, O, S, h⟩ := h
  unfold pN at h
  cases e : en[i]? with
  | none => rw [e] at h; exact h.elim
  | some o =>
    cases o with
    | none => rw [e] at h; exact h.elim
    | some t =>
      rw [e] at h
      obtain ⟨v, hv, _⟩ := S.sl i t e
      exact ⟨v, hv, h v v H (Exn.refl _) hv rfl⟩
def kidsO : Tr → Option (List Tr)
  | .ol ts => some ts
  | .tp ts => some ts
  | _ => none
def pSub (p : DenP) (fi : En → Rs Tr) : DenP := fun en => (p en).bind fun a => (dI fi en).bind fun k => match en[a.1]? with
  | some (some t) => match (nodeT t a.2).bind kidsO with
    | some ts => match ixN ts.length k with
      | some j => if j < ts.length then .ok (a.1, a.2 ++ [j]) else .no
      | none => .no
    | none => .no
  | _ => .no
theorem tp_sub {p : DenP} {fi : En → Rs Tr} {Q : VK} (h : tPt K W (pSub p fi) σ H Q) : tOp (rIx K) (tPt K W p) (tM K W fi) σ H Q := by
  obtain ⟨F, en, fp, O, S, h⟩ := h
  unfold pSub at h
  refine ⟨F, en, fp, O, S, ?_⟩
  cases e : p en with
  | er c => rw [e] at h; exact h
  | no => rw [e] at h; exact h
  | ok a =>
    obtain ⟨i, js⟩ := a
    rw [e] at h
    simp only [Rs.bind_ok'] at h
    intro w v0 H1 e1 hv hp
    have S1 := S.grow e1
    refine tm_int S1.toStt ?_
    cases e2 : dI fi en with
    | er c => rw [e2] at h; exact fun H2 x => h H2 (e1.trans x)
    | no => rw [e2] at h; exact h
    | ok k =>
      rw [e2] at h
      simp only [Rs.bind_ok'] at h
      intro H2 x2
      have S2 := S1.grow x2
      cases e3 : en[i]? with
      | none => rw [e3] at h; exact h.elim
      | some o =>
        cases o with
        | none => rw [e3] at h; exact h.elim
        | some t =>
          rw [e3] at h
          simp only at h
          cases e4 : (nodeT t js).bind kidsO with
          | none => rw [e4] at h; exact h.elim
          | some ts =>
            rw [e4] at h
            simp only at h
            obtain ⟨u, hu, hk⟩ := Option.bind_eq_some_iff.mp e4
            cases e5 : ixN ts.length k with
            | none => rw [e5] at h; exact h.elim
            | some j =>
              rw [e5] at h
              simp only at h
              by_cases hj : j < ts.length
              · rw [if_pos hj] at h
                obtain ⟨v1, hv1, r⟩ := S2.sl i t e3
                rw [hv] at hv1
                cases hv1
                have hp2 := hp.mono x2 js
                obtain ⟨f', _, r2⟩ := nav gh_sub js r hu hp2
                have gj : ts[j]? = some ts[j] := List.getElem?_eq_getElem hj
                cases u with
                | ol us =>
                  cases hk
                  obtain ⟨q, vs, fps, rfl, _, h3, h4⟩ := r2
                  obtain ⟨x, fx, x1, _, _⟩ := RTs.get h4 gj
                  refine .inl ⟨q, vs, k, x, rfl, rfl, .inl (.inl h3), ?_, h x v0 H2 (e1.trans x2) hv (hp2.snoc js (.inl h3) x1)⟩
                  unfold atI
                  rw [h4.length, e5]
                  exact x1
                | tp us =>
                  cases hk
                  obtain ⟨q, vs, rfl, h3, h4⟩ := r2
                  obtain ⟨x, fx, x1, _, _⟩ := RTs.get h4 gj
                  refine .inr (.inl ⟨q, vs, k, x, rfl, rfl, .inl (.inl (gh_sub _ _ h3)), ?_, h x v0 H2 (e1.trans x2) hv (hp2.snoc js (.inr (gh_sub _ _ h3)) x1)⟩)
                  unfold atI
                  rw [h4.length, e5]
                  exact x1
                | d _ => cases hk
                | e _ => cases hk
                | v _ => cases hk
                | s _ => cases hk
                | dt _ => cases hk
              · rw [if_neg hj] at h
                exact h.elim
end
end RP
namespace RP
open PySem L2

section
variable {K : PySem.W.Frag} {W : WW} {F H H' H1 G G' G0 : Hp} {en en' : En} {σ : L2.St} {fp : Nat → List Addr} {O O' : Addr → Prop} {t : Tr} {v : V} {D : Ends}

-- a list's items exchanged by g, the new ones from e
def chg (en : En) (i : Nat) (js : List Nat) (g : List Tr → Option (List Tr)) : SR := match en[i]? with
  | some (some t) => match nodeT t js with
    | some (.ol ts) => match g ts with
      | some ts' => match setN t js (.ol ts') with
        | some t' => .nx (en.set i (some t'))
        | none => .no
      | none => .no
    | _ => .no
  | _ => .no
theorem noVs_app {us ws : List Tr} (h1 : noVs us = true) (h2 : noVs ws = true) : noVs (us ++ ws) = true := by
  induction us with
  | nil => exact h2
  | cons u us ih =>
    have h1' : (noV u && noVs us) = true := h1
    rw [Bool.and_eq_true] at h1'
    show (noV u && noVs (us ++ ws)) = true
    rw [h1'.1, ih h1'.2]; rfl
theorem noV_node : ∀ (js : List Nat) {t u : Tr}, noV t = true → nodeT t js = some u → noV u = true
  | [], t, u, n, h => by cases h; exact n
  | j :: js, t, u, n, h => by
    cases t with
    | ol ts =>
      obtain ⟨x, hx, h2⟩ := Option.bind_eq_some_iff.mp h
      exact noV_node js (noVs_mem n x (List.mem_of_getElem? hx)) h2
    | tp ts =>
      obtain ⟨x, hx, h2⟩ := Option.bind_eq_some_iff.mp h
      exact noV_node js (noVs_mem n x (List.mem_of_getElem? hx)) h2
    | d _ => cases h
    | e _ => cases h
    | v _ => cases h
    | s _ => cases h
    | dt _ => cases h
-- where a path leads
theorem path_at {i : Nat} {js : List Nat} {v0 w : V} {ts : List Tr} (S : StS K F en σ H fp O) (hi : en[i]? = some (some t)) (hv : σ[i]? = some (some v0)) (hn : nodeT t js = some (.ol ts)) (hp : VP H v0 js w) :
    ∃ p vs fps, w = .ref p ∧ H p = some (.lst vs) ∧ RTs K (gh F O H) H F ts vs fps ∧ vs.length = ts.length ∧ p ∈ fp i := by
  obtain ⟨x, hx, r⟩ := S.sl i t hi
  rw [hv] at hx
  cases hx
  obtain ⟨f', q1, q2⟩ := nav gh_sub js r hn hp
  obtain ⟨p, vs, fps, e1, e2, e3, e4⟩ := q2
  exact ⟨p, vs, fps, e1, e3, e4, e4.length, q1.subset (by rw [e2]; exact List.mem_cons_self)⟩
def isOl (en : En) (i : Nat) (js : List Nat) : Bool := match en[i]? with
  | some (some t) => match nodeT t js with
    | some (.ol _) => true
    | _ => false
  | _ => false
theorem isOl_at {i : Nat} {js : List Nat} {v0 w : V} (S : StS K F en σ H fp O) (h : isOl en i js = true) (hv : σ[i]? = some (some v0)) (hp : VP H v0 js w) : ∃ p vs, w = .ref p ∧ H p = some (.lst vs) := by
  unfold isOl at h
  split at h
  · rename_i t e
    split at h
    · rename_i ts e2
      obtain ⟨p, vs, _, e3, e4, _⟩ := path_at S e hv e2 hp
      exact ⟨p, vs, e3, e4⟩
    · cases h
  · cases h
theorem chg_nx {i : Nat} {js : List Nat} {g : List Tr → Option (List Tr)} (h : Po K W D F G0 (chg en i js g)) : ∃ t ts ts' t', en[i]? = some (some t) ∧ nodeT t js = some (.ol ts) ∧ g ts = some ts' ∧ setN t js (.ol ts') = some t' ∧ Po K W D F G0 (.nx (en.set i (some t'))) := by
  unfold chg at h
  cases e1 : en[i]? with
  | none => rw [e1] at h; exact h.elim
  | some o =>
    cases o with
    | none => rw [e1] at h; exact h.elim
    | some t =>
      rw [e1] at h
      simp only at h
      cases e2 : nodeT t js with
      | none => rw [e2] at h; exact h.elim
      | some u =>
        rw [e2] at h
        cases u with
        | ol ts =>
          simp only at h
          cases e3 : g ts with
          | none => rw [e3] at h; exact h.elim
          | some ts' =>
            rw [e3] at h
            simp only at h
            cases e4 : setN t js (.ol ts') with
            | none => rw [e4] at h; exact h.elim
            | some t' =>
              rw [e4] at h
              exact ⟨t, ts, ts', t', rfl, e2, e3, e4, h⟩
        | d _ => exact h.elim
        | e _ => exact h.elim
        | v _ => exact h.elim
        | s _ => exact h.elim
        | dt _ => exact h.elim
        | tp _ => exact h.elim
-- the change told by values (fv) and by trees (g)
theorem chg_ok {i : Nat} {js : List Nat} {g : List Tr → Option (List Tr)} {v0 w : V} {fq : List Addr} (fv : List V → List V) (S : StS K F en σ H fp O) (h : Po K W D F G0 (chg en i js g)) (hG : Exn G0 (gh F O H)) (hv : σ[i]? = some (some v0)) (hp : VP H v0 js w)
    (fo : ∀ a ∈ fq, O a) (dj : ∀ k a, a ∈ fq → a ∉ fp k)
    (k : ∀ p vs ts ts' fps G', w = .ref p → p ∉ fps → p ∉ fq → fps.Nodup → (∀ a ∈ fps, a ∉ fq) → noVs ts = true → g ts = some ts' → Exn (gh F O H) G' → RTs K (gh F O H) H F ts vs fps → vs.length = ts.length →
      noVs ts' = true ∧ ∃ fps', RTs K G' (upd H p (.lst (fv vs))) F ts' (fv vs) fps' ∧ fps'.Nodup ∧ p ∉ fps' ∧ ∀ a ∈ fps', a ∈ fps ∨ a ∈ fq) :
    ∃ p vs ts ts', w = .ref p ∧ H p = some (.lst vs) ∧ g ts = some ts' ∧ vs.length = ts.length ∧ D.nx σ (upd H p (.lst (fv vs))) := by
  obtain ⟨t, ts, ts', t', h1, h2, h3, h4, h5⟩ := chg_nx h
  obtain ⟨p, vs, fps0, rfl, hpv, r0, hl, pin⟩ := path_at S h1 hv h2 hp
  have npq : p ∉ fq := fun z => dj i p z pin
  have hO : O p := S.fo i p pin
  have g1 : Exn (gh F O H) (gh F O (upd H p (.lst (fv vs)))) := gh_mono (fun a o hn z => by rw [upd_ne fun q => hn (by rw [q]; exact hO)]; exact z) fun a q => .inl q
  have nts : noVs ts = true := noV_node js (S.nv i t h1) h2
  -- the facts about ts' do not hang on the footprint: told once for the tree's own
  have key : ∀ fps, RTs K (gh F O H) H F ts vs fps → p ∉ fps → fps.Nodup → (∀ a ∈ fps, a ∈ fp i) → noVs ts' = true ∧ ∃ fps', RTs K (gh F O (upd H p (.lst (fv vs)))) (upd H p (.lst (fv vs))) F ts' (fv vs) fps' ∧ fps'.Nodup ∧ p ∉ fps' ∧ ∀ a ∈ fps', a ∈ fps ∨ a ∈ fq := fun fps r np nd sub =>
    k p vs ts ts' fps _ rfl np npq nd (fun a ha z => dj i a z (sub a ha)) nts h3 g1 r hl
  have nv' : noVs ts' = true := by
    obtain ⟨x, hx, r⟩ := S.sl i t h1
    rw [hv] at hx
    cases hx
    obtain ⟨f', q1, q2⟩ := nav gh_sub js r h2 hp
    obtain ⟨q, us, fps, e1, e2, e3, e4⟩ := q2
    cases e1
    rw [hpv] at e3
    cases e3
    have nf : f'.Nodup := q1.nodup (S.nd i)
    rw [e2, List.nodup_cons] at nf
    exact (key fps e4 nf.1 nf.2 fun a ha => q1.subset (by rw [e2]; exact List.mem_cons_of_mem _ ha)).1
  obtain ⟨_, t2, fp', a1, a2, a3⟩ := S.change h1 hv h2 hp hpv fo dj nv' (fun fps r np nd sub => (key fps r np nd sub).2)
  rw [h4] at a1
  cases a1
  exact ⟨p, vs, ts, ts', rfl, hpv, h3, hl, h5 σ _ fp' O a2 (hG.trans a3)⟩
/-! ### append -/
def dApp (p : DenP) (g : DenX) : DenS := fun en => onR (p en) en fun a => if isOl en a.1 a.2 then onR (g en) en fun b => if noV b.1 then chg b.2 a.1 a.2 (fun ts => if ts.length < 100000 then some (ts ++ [b.1]) else none) else .no else .no
theorem ts_app {p : DenP} {g : DenX} (h : tS K W (dApp p g) D σ H) : tDrop (tBM K "list" rAppend (tPt K W p) (tCons (tX K W g) tNil)) D σ H := by
  obtain ⟨F, en, fp, O, S, h⟩ := h
  unfold dApp at h
  refine ⟨F, en, fp, O, S, ?_⟩
  cases e : p en with
  | er c => rw [e] at h; exact fun H' e1 => h σ H' fp O (S.grow e1) (gh_grow e1)
  | no => rw [e] at h; exact h
  | ok a =>
    obtain ⟨i, js⟩ := a
    rw [e] at h
    simp only [onR_ok] at h
    intro w v0 H1 e1 hv hp
    have S1 := S.grow e1
    by_cases ho : isOl en i js = true
    · rw [if_pos ho] at h
      obtain ⟨q, us, rfl, hq⟩ := isOl_at S1 ho hv hp
      refine ⟨.inl ⟨rfl, _, SqL.of hq⟩, F, en, fp, O, S1, ?_⟩
      cases e2 : g en with
      | er c => rw [e2] at h; exact fun H2 x2 => h σ H2 fp O (S.grow (e1.trans x2)) (gh_grow (e1.trans x2))
      | no => rw [e2] at h; exact h.elim
      | ok b =>
        obtain ⟨u, en1⟩ := b
        rw [e2] at h
        simp only [onR_ok] at h
        intro y H2 fp2 O2 fq T r
        by_cases hn : noV u = true
        · rw [if_pos hn] at h
          obtain ⟨p2, vs, ts, ts', x1, x2, x3, x4, x5⟩ := chg_ok (fv := fun vs => vs ++ [y]) T.st h ((gh_grow e1).trans (gh_mono (fun a o _ q => T.ex a o q) T.nw)) hv (hp.mono T.ex js) T.fo T.dj
            (fun p vs ts ts' fps G' ew np npq nd dis nts hg gG rts hl => by
              split at hg
              · cases hg
                refine ⟨noVs_app nts (by show (noV u && true) = true; rw [hn]; rfl), fps ++ fq, RTs.append (RTs.frame gG ts vs fps (fun a ha => upd_ne fun z => np (by rw [← z]; exact ha)) nts rts) (RTs.one (RT.frame gG u y fq (fun a ha => upd_ne fun z => npq (by rw [← z]; exact ha)) hn r)), List.nodup_append.mpr ⟨nd, T.nd, fun a ha b hb z => dis a ha (by rw [z]; exact hb)⟩, fun z => (List.mem_append.mp z).elim np npq, fun a ha => List.mem_append.mp ha⟩
              · cases hg)
          split at x3
          · rename_i hlt
            exact ⟨p2, vs, y, x1, rfl, x2, by rw [x4]; exact Nat.lt_of_lt_of_le hlt (by decide), x5⟩
          · cases x3
        · rw [if_neg hn] at h
          exact h.elim
    · rw [if_neg ho] at h
      exact h.elim
/-! ### extend -/
def lkids : Tr → Option (List Tr)
  | .ol ts => some ts
  | .d (.list ds) => some (ds.map .d)
  | _ => none
def dExt (p : DenP) (g : DenX) : DenS := fun en => onR (p en) en fun a => if isOl en a.1 a.2 then onR (g en) en fun b => match lkids b.1 with
  | some us => if noV b.1 then chg b.2 a.1 a.2 (fun ts => if ts.length + us.length < 100000 then some (ts ++ us) else none) else .no
  | none => .no else .no
theorem ts_ext {p : DenP} {g : DenX} (h : tS K W (dExt p g) D σ H) : tDrop (tBM K "list" rExtend (tPt K W p) (tCons (tX K W g) tNil)) D σ H := by
  obtain ⟨F, en, fp, O, S, h⟩ := h
  unfold dExt at h
  refine ⟨F, en, fp, O, S, ?_⟩
  cases e : p en with
  | er c => rw [e] at h; exact fun H' e1 => h σ H' fp O (S.grow e1) (gh_grow e1)
  | no => rw [e] at h; exact h
  | ok a =>
    obtain ⟨i, js⟩ := a
    rw [e] at h
    simp only [onR_ok] at h
    intro w v0 H1 e1 hv hp
    have S1 := S.grow e1
    by_cases ho : isOl en i js = true
    · rw [if_pos ho] at h
      obtain ⟨q, us, rfl, hq⟩ := isOl_at S1 ho hv hp
      refine ⟨.inl ⟨rfl, _, SqL.of hq⟩, F, en, fp, O, S1, ?_⟩
      cases e2 : g en with
      | er c => rw [e2] at h; exact fun H2 x2 => h σ H2 fp O (S.grow (e1.trans x2)) (gh_grow (e1.trans x2))
      | no => rw [e2] at h; exact h.elim
      | ok b =>
        obtain ⟨u, en1⟩ := b
        rw [e2] at h
        simp only [onR_ok] at h
        intro y H2 fp2 O2 fq T r
        cases hl : lkids u with
        | none => rw [hl] at h; exact h.elim
        | some us =>
          rw [hl] at h
          simp only at h
          by_cases hn : noV u = true
          · rw [if_pos hn] at h
            have hk : kids u = some (true, us) := by
              unfold lkids at hl
              split at hl
              · cases hl; rfl
              · cases hl; rfl
              · cases hl
            obtain ⟨b, ws, fb, rfl, hb, _, rb, sb⟩ := RT.kids T.st.toStt.wf r hk
            have nus : noVs us = true := by
              have : ∀ us : List Tr, (∀ u ∈ us, noV u = true) → noVs us = true := fun us => by
                induction us with
                | nil => intro _; rfl
                | cons x us ih =>
                  intro z
                  show (noV x && noVs us) = true
                  rw [z x List.mem_cons_self, ih fun u hu => z u (List.mem_cons_of_mem _ hu)]; rfl
              exact this us (kids_noV hk hn)
            obtain ⟨p2, vs, ts, ts', x1, x2, x3, x4, x5⟩ := chg_ok (fv := fun vs => vs ++ ws) T.st h ((gh_grow e1).trans (gh_mono (fun a o _ q => T.ex a o q) T.nw)) hv (hp.mono T.ex js) T.fo T.dj
              (fun p vs ts ts' fps G' ew np npq nd dis nts hg gG rts hl2 => by
                split at hg
                · cases hg
                  refine ⟨noVs_app nts nus, fps ++ fb, RTs.append (RTs.frame gG ts vs fps (fun a ha => upd_ne fun z => np (by rw [← z]; exact ha)) nts rts) (RTs.frame gG us ws fb (fun a ha => upd_ne fun z => npq (by rw [← z]; exact sb.subset ha)) nus rb), List.nodup_append.mpr ⟨nd, sb.nodup T.nd, fun a ha b hb z => dis a ha (by rw [z]; exact sb.subset hb)⟩, fun z => (List.mem_append.mp z).elim np fun q => npq (sb.subset q), fun a ha => (List.mem_append.mp ha).imp id fun q => sb.subset q⟩
                · cases hg)
            split at x3
            · rename_i hlt
              exact ⟨p2, b, vs, ws, x1, rfl, x2, hb rfl, by rw [x4, rb.length]; exact sz _ (Nat.le_of_lt hlt), x5⟩
            · cases x3
          · rw [if_neg hn] at h
            exact h.elim
    · rw [if_neg ho] at h
      exact h.elim
/-! ### pop, its value dropped -/
def dPop (p : DenP) : DenS := fun en => onR (p en) en fun a => chg en a.1 a.2 (fun ts => if 0 < ts.length then some ts.dropLast else none)
theorem ts_pop {p : DenP} (h : tS K W (dPop p) D σ H) : tDrop (tBM0 K "list" rPop (tPt K W p)) D σ H := by
  obtain ⟨F, en, fp, O, S, h⟩ := h
  unfold dPop at h
  refine ⟨F, en, fp, O, S, ?_⟩
  cases e : p en with
  | er c => rw [e] at h; exact fun H' e1 => h σ H' fp O (S.grow e1) (gh_grow e1)
  | no => rw [e] at h; exact h
  | ok a =>
    obtain ⟨i, js⟩ := a
    rw [e] at h
    simp only [onR_ok] at h
    intro w v0 H1 e1 hv hp
    obtain ⟨p2, vs, ts, ts', x1, x2, x3, x4, x5⟩ := chg_ok (fq := []) (fv := fun vs => vs.dropLast) (S.grow e1) h (gh_grow e1) hv hp (fun a ha => by cases ha) (fun k a ha => by cases ha)
      (fun p vs ts ts' fps G' ew np npq nd dis nts hg gG rts hl => by
        split at hg
        · cases hg
          rw [List.dropLast_eq_take, List.dropLast_eq_take, hl]
          obtain ⟨f1, q1, q2⟩ := rts.take (ts.length - 1)
          have nt : noVs (ts.take (ts.length - 1)) = true := by
            have : ∀ (n : Nat) (ts : List Tr), noVs ts = true → noVs (ts.take n) = true := fun n => by
              induction n with
              | zero => intro ts _; rw [List.take_zero]; rfl
              | succ n ih =>
                intro ts z
                cases ts with
                | nil => rfl
                | cons x r =>
                  have z' : (noV x && noVs r) = true := z
                  rw [Bool.and_eq_true] at z'
                  show (noV x && noVs (r.take n)) = true
                  rw [z'.1, ih r z'.2]; rfl
            exact this _ ts nts
          exact ⟨nt, f1, RTs.frame gG _ _ f1 (fun a ha => upd_ne fun z => np (by rw [← z]; exact q2.subset ha)) nt q1, q2.nodup nd, fun z => np (q2.subset z), fun a ha => .inl (q2.subset ha)⟩
        · cases hg)
    split at x3
    · rename_i hlt
      subst x1
      exact ⟨.inl ⟨rfl, _, SqL.of x2⟩, p2, vs, vs[vs.length - 1]'(by omega), rfl, rfl, x2, List.getElem?_eq_getElem (by omega), x5⟩
    · cases x3
/-! ### x[i] = e -/
def dPut (p : DenP) (fi : En → Rs Tr) (g : DenX) : DenS := fun en => onR (g en) en fun b => onR (p b.2) b.2 fun a => onR (dI fi b.2) b.2 fun k => if noV b.1 then chg b.2 a.1 a.2 (fun ts => (ixN ts.length k).map fun j => ts.set j b.1) else .no
theorem RTs.setOne {G H F : Hp} {ts : List Tr} {vs : List V} {f : List Addr} {j : Nat} {u : Tr} {y : V} {fq : List Addr} (h : RTs K G H F ts vs f) (hj : j < ts.length) (r : RT K G H F u y fq) : ∃ f', RTs K G H F (ts.set j u) (vs.set j y) f' ∧ (∀ a ∈ f', a ∈ f ∨ a ∈ fq) ∧ (f.Nodup → fq.Nodup → (∀ a ∈ f, a ∉ fq) → f'.Nodup) := by
  induction ts generalizing vs f j with
  | nil => cases hj
  | cons t ts ih =>
    obtain ⟨v, vs', f1, f2, e1, e2, e3, e4⟩ := h
    subst e1 e2
    cases j with
    | zero =>
      refine ⟨fq ++ f2, ⟨y, vs', fq, f2, rfl, rfl, r, e4⟩, fun a ha => ?_, fun n1 n2 dj => ?_⟩
      · rcases List.mem_append.mp ha with q | q
        · exact .inr q
        · exact .inl (List.mem_append_right _ q)
      · obtain ⟨m1, m2, m3⟩ := List.nodup_append.mp n1
        exact List.nodup_append.mpr ⟨n2, m2, fun a ha b hb z => dj b (List.mem_append_right _ hb) (by rw [← z]; exact ha)⟩
    | succ j =>
      obtain ⟨f', a1, a2, a3⟩ := ih (j := j) e4 (Nat.lt_of_succ_lt_succ hj)
      refine ⟨f1 ++ f', ⟨v, vs'.set j y, f1, f', rfl, rfl, e3, a1⟩, fun a ha => ?_, fun n1 n2 dj => ?_⟩
      · rcases List.mem_append.mp ha with q | q
        · exact .inl (List.mem_append_left _ q)
        · exact (a2 a q).imp (fun z => List.mem_append_right _ z) id
      · obtain ⟨m1, m2, m3⟩ := List.nodup_append.mp n1
        refine List.nodup_append.mpr ⟨m1, a3 m2 n2 fun a ha => dj a (List.mem_append_right _ ha), fun a ha b hb z => ?_⟩
        rcases a2 b hb with q | q
        · exact m3 a ha b q z
        · exact dj a (List.mem_append_left _ ha) (by rw [z]; exact q)
theorem ixN_lt {n : Nat} {i : Int} {j : Nat} (h : ixN n i = some j) : j < n := (ixN_seq h).2.1
theorem ts_put {p : DenP} {fi : En → Rs Tr} {g : DenX} (h : tS K W (dPut p fi g) D σ H) : tAsg (tX K W g) (L2.gSub (tPt K W p) (tM K W fi) rSetL) D σ H := by
  obtain ⟨F, en, fp, O, S, h⟩ := h
  unfold dPut at h
  refine ⟨F, en, fp, O, S, ?_⟩
  cases e : g en with
  | er c => rw [e] at h; exact fun H' e1 => h σ H' fp O (S.grow e1) (gh_grow e1)
  | no => rw [e] at h; exact h
  | ok b =>
    obtain ⟨u, en1⟩ := b
    rw [e] at h
    simp only [onR_ok] at h
    intro y H1 fp1 O1 fq T r
    have g0 : Exn (gh F O H) (gh F O1 H1) := gh_mono (fun a o _ q => T.ex a o q) T.nw
    refine ⟨F, en1, fp1, O1, T.st, ?_⟩
    cases e2 : p en1 with
    | er c => rw [e2] at h; exact fun H2 x2 => h σ H2 fp1 O1 (T.st.grow x2) (g0.trans (gh_grow x2))
    | no => rw [e2] at h; exact h.elim
    | ok a =>
      obtain ⟨i, js⟩ := a
      rw [e2] at h
      simp only [onR_ok] at h
      intro w v0 H2 x2 hv hp
      have S2 := T.st.grow x2
      refine tm_int S2.toStt ?_
      cases e3 : dI fi en1 with
      | er c => rw [e3] at h; exact fun H3 x3 => h σ H3 fp1 O1 (S2.grow x3) (g0.trans (gh_grow (x2.trans x3)))
      | no => rw [e3] at h; exact h.elim
      | ok k =>
        rw [e3] at h
        simp only [onR_ok] at h
        intro H3 x3
        have S3 := S2.grow x3
        have x23 := x2.trans x3
        have r3 : RT K (gh F O1 H3) H3 F u y fq := RT.mono (gh_grow x23) x23 (Exn.refl _) u y fq r
        by_cases hn : noV u = true
        · rw [if_pos hn] at h
          obtain ⟨p2, vs, ts, ts', y1, y2, y3, y4, y5⟩ := chg_ok (fv := fun vs => ((ixN vs.length k).map fun j => vs.set j y).getD vs) S3 h (g0.trans (gh_grow x23)) hv (hp.mono x3 js) T.fo T.dj
            (fun p vs ts ts' fps G' ew np npq nd dis nts hg gG rts hl => by
              obtain ⟨j2, hj2, rfl⟩ := Option.map_eq_some_iff.mp hg
              rw [hl, hj2]
              obtain ⟨f', a1, a2, a3⟩ := RTs.setOne rts (ixN_lt hj2) r3
              have nts' := noVs_set hn j2 nts
              refine ⟨nts', f', RTs.frame gG _ _ f' (fun a ha => upd_ne fun z => ?_) nts' a1, a3 nd T.nd dis, fun z => (a2 p z).elim np npq, a2⟩
              subst z
              exact (a2 a ha).elim np npq)
          obtain ⟨j, hj, _⟩ := Option.map_eq_some_iff.mp y3
          rw [y4, hj] at y5
          exact ⟨p2, vs, k, j, y1, rfl, y2, by rw [y4]; exact hj, y5⟩
        · rw [if_neg hn] at h
          exact h.elim
end
end RP
namespace RP
open PySem L2

section
variable {K : PySem.W.Frag} {W : WW} {F H H' H1 G G' G0 : Hp} {en en' : En} {σ : L2.St} {fp : Nat → List Addr} {O O' : Addr → Prop} {t : Tr} {v : V} {D : Ends}

/-! ### for -/
def loopR (r : SR) (k : En → SR) : SR := match r with
  | .nx en => k en
  | .ct en => k en
  | .bk en => .nx en
  | r => r
@[simp] theorem loopR_nx (en : En) (k : En → SR) : loopR (.nx en) k = k en := rfl
@[simp] theorem loopR_ct (en : En) (k : En → SR) : loopR (.ct en) k = k en := rfl
@[simp] theorem loopR_bk (en : En) (k : En → SR) : loopR (.bk en) k = .nx en := rfl
@[simp] theorem loopR_rt (t : Tr) (en : En) (k : En → SR) : loopR (.rt t en) k = .rt t en := rfl
@[simp] theorem loopR_er (c : Str) (en : En) (k : En → SR) : loopR (.er c en) k = .er c en := rfl
@[simp] theorem loopR_no (k : En → SR) : loopR .no k = .no := rfl
def forL (T : Tg) (body : DenS) : List Tr → En → SR
  | [], en => .nx en
  | t :: ts, en => match T t en with
    | none => .no
    | some en1 => loopR (body en1) (forL T body ts)
def dFor (src : En → Rs (List Tr)) (T : Tg) (body : DenS) : DenS := fun en => onR (src en) en fun its => forL T body its en
-- one turn's ends
theorem Po.turn {k : En → SR} {r : SR} {N : L2.St → Hp → Prop} (h : Po K W D F G0 (loopR r k))
    (hN : ∀ en σ H fp O, StS K F en σ H fp O → Exn G0 (gh F O H) → Po K W D F (gh F O H) (k en) → N σ H) : Po K W { D with nx := N, ct := N, bk := D.nx } F G0 r := by
  cases r with
  | nx en => exact fun σ H fp O S g => hN en σ H fp O S g (Po.later h g)
  | ct en => exact fun σ H fp O S g => hN en σ H fp O S g (Po.later h g)
  | bk en => exact h
  | rt t en => exact h
  | er c en => exact h
  | no => exact h
theorem ts_for {src : En → Rs (List Tr)} {T : Tg} {js : List Nat} {body : DenS} {g : TG} (gk : GOk K g T js) (h : tS K W (dFor src T body) D σ H) : tFor (tI K W false src) g (tS K W body) D σ H := by
  obtain ⟨F, en, fp, O, S, h⟩ := h
  refine ⟨F, en, fp, O, S.toStt, ?_⟩
  unfold dFor at h
  cases e : src en with
  | er c => rw [e] at h; exact fun H' e1 => h σ H' fp O (S.grow e1) (gh_grow e1)
  | no => rw [e] at h; exact h
  | ok its =>
    rw [e] at h
    simp only [onR_ok] at h
    intro J H1 e1 it
    have S1 := S.grow e1
    refine ⟨fun i m σ2 H2 => ∃ en2 fp2 O2, StS K F en2 σ2 H2 fp2 O2 ∧ Exn (gh F O H1) (gh F O2 H2) ∧ i ≤ its.length ∧ m = its.length - i ∧ Po K W D F (gh F O2 H2) (forL T body (its.drop i) en2),
      ⟨_, en, fp, O, S1, Exn.refl _, Nat.zero_le _, rfl, by rw [List.drop_zero]; exact Po.later h (gh_grow e1)⟩, fun i m σ2 H2 w => ?_⟩
    obtain ⟨en2, fp2, O2, S2, g2, hi, rfl, p2⟩ := w
    have wf2 : Wf F O2 H2 := S2.toStt.wf
    obtain ⟨j1, j2, j3⟩ := it i O2 H2 wf2 g2 nofun
    by_cases hlt : i < its.length
    · refine .inr ⟨j1 hlt, ?_⟩
      rw [List.drop_eq_getElem_cons hlt] at p2
      unfold forL at p2
      cases hT : T its[i] en2 with
      | none => rw [hT] at p2; exact p2.elim
      | some en3 =>
        rw [hT] at p2
        simp only at p2
        refine ⟨fun σ4 H4 => ∃ en4 fp4 O4, StS K F en4 σ4 H4 fp4 O4 ∧ Exn (gh F O H1) (gh F O4 H4) ∧ Po K W D F (gh F O4 H4) (forL T body (its.drop (i + 1)) en4), fun σ4 H4 n4 => ?_, fun x H3 y => ?_⟩
        · obtain ⟨en4, fp4, O4, S4, g4, p4⟩ := n4
          exact ⟨its.length - (i + 1), by omega, en4, fp4, O4, S4, g4, by omega, rfl, p4⟩
        · obtain ⟨e3, rx, nx⟩ := j2 its[i] (List.getElem?_eq_getElem hlt) x H3 y
          refine gk F en2 fp2 O2 σ2 H3 its[i] x en3 _ (S2.toStt.grow e3) rx hT fun σ5 fp5 S5 _ _ nv5 => ?_
          refine ⟨F, en3, fp5, O2, ⟨S5, nv5 (nx rfl) S2.nv⟩, ?_⟩
          refine Po.turn (Po.later p2 (gh_grow e3)) fun en6 σ6 H6 fp6 O6 S6 g6 p6 => ?_
          exact ⟨en6, fp6, O6, S6, g2.trans ((gh_grow e3).trans g6), p6⟩
    · have ei : i = its.length := by omega
      subst ei
      refine .inl ⟨j3 (Nat.le_refl _), ?_⟩
      rw [List.drop_length] at p2
      exact p2 σ2 H2 fp2 O2 S2 (Exn.refl _)

/-! ### while -/
def whileL (c : En → Rs Bool) (body : DenS) : Nat → En → SR
  | 0, _ => .no
  | n + 1, en => onR (c en) en fun b => if b then loopR (body en) (whileL c body n) else .nx en
def dWhile (n : Nat) (c : En → Rs Bool) (body : DenS) : DenS := whileL c body n
theorem ts_while {n : Nat} {c : En → Rs Bool} {body : DenS} (h : tS K W (dWhile n c body) D σ H) : tWhile (tT K W c) (tS K W body) D σ H := by
  obtain ⟨F, en, fp, O, S, h⟩ := h
  refine ⟨fun m σ2 H2 => ∃ en2 fp2 O2, StS K F en2 σ2 H2 fp2 O2 ∧ Po K W D F (gh F O2 H2) (whileL c body m en2), ⟨n, en, fp, O, S, h⟩, fun m σ2 H2 w => ?_⟩
  obtain ⟨en2, fp2, O2, S2, p2⟩ := w
  cases m with
  | zero => exact p2.elim
  | succ m =>
    refine ⟨F, en2, fp2, O2, S2.toStt, ?_⟩
    unfold whileL at p2
    cases e : c en2 with
    | er k => rw [e] at p2; exact fun H' e1 => p2 σ2 H' fp2 O2 (S2.grow e1) (gh_grow e1)
    | no => rw [e] at p2; exact p2
    | ok b =>
      rw [e] at p2
      simp only [onR_ok] at p2
      intro H3 e3
      cases b with
      | false => exact p2 σ2 H3 fp2 O2 (S2.grow e3) (gh_grow e3)
      | true =>
        rw [if_pos rfl] at p2 ⊢
        refine ⟨fun σ4 H4 => ∃ en4 fp4 O4, StS K F en4 σ4 H4 fp4 O4 ∧ Po K W D F (gh F O4 H4) (whileL c body m en4), fun σ4 H4 n4 => ⟨m, Nat.lt_succ_self m, n4⟩, ?_⟩
        refine ⟨F, en2, fp2, O2, S2.grow e3, ?_⟩
        exact Po.turn (Po.later p2 (gh_grow e3)) fun en6 σ6 H6 fp6 O6 S6 _ p6 => ⟨en6, fp6, O6, S6, p6⟩

/-! ### raise -/
def dRaise (c : Str) : DenS := fun en => .er c en

/-! ### a def's body -/
def finD : SR → Rs Tr
  | .nx _ => .ok (.d .none)
  | .rt t _ => if clean t then .ok t else .no
  | .er c _ => .er c
  | _ => .no
def dDef (p n : Nat) (body : DenS) : Den := fun ts => if ts.length = p then finD (body (ts.map some ++ List.replicate (n - p) none)) else .no
theorem sp_len {cl : Str → Addr} {p n : Nat} {body : DenS} {vs : List V} {Q : VK} {E : XK} (h : spOf K cl (dDef p n body) vs H Q E) : vs.length = p := by
  obtain ⟨ts, r, _, h⟩ := h
  unfold dDef at h
  by_cases e : ts.length = p
  · rw [r.length, e]
  · rw [if_neg e] at h; exact h.elim
theorem def_start {cl : Str → Addr} {p n : Nat} {body : DenS} {vs : List V} {Q : VK} {E : XK} {N : List Str} (h : spOf K cl (dDef p n body) vs H Q E) (hN : N.length = n) :
    tS K (fun c _ H' => E (.ref (cl c)) none H') body { nx := fun _ H' => Q .non H', rt := Q } (start N vs) H := by
  obtain ⟨ts, r, nv, h⟩ := h
  unfold dDef at h
  by_cases e : ts.length = p
  · rw [if_pos e] at h
    have hl := r.length
    have nv' : ∀ (i : Nat) (t : Tr), (ts.map some ++ List.replicate (n - p) none)[i]? = some (some t) → ts[i]? = some t := fun i t q => by
      by_cases hi : i < ts.length
      · rw [List.getElem?_append_left (by rw [List.length_map]; exact hi), List.getElem?_map] at q
        obtain ⟨u, hu, e⟩ := Option.map_eq_some_iff.mp q
        cases e
        exact hu
      · rw [List.getElem?_append_right (by rw [List.length_map]; omega)] at q
        have := List.mem_of_getElem? q
        obtain ⟨_, z⟩ := List.mem_replicate.mp this
        cases z
    refine ⟨H, ts.map some ++ List.replicate (n - p) none, fun _ => [], fun _ => False, ⟨⟨?_, fun i t q => ?_, fun _ => List.nodup_nil, fun i j a q => (by cases q), fun i a q => (by cases q), fun a q => q.elim, fun a q => q.elim, Exn.refl _⟩, fun i t q => nv t (List.mem_of_getElem? (nv' i t q))⟩, ?_⟩
    · unfold L2.start
      rw [List.length_append, List.length_append, List.length_map, List.length_map, List.length_replicate, List.length_replicate, hl, hN, e]
    · have q' := nv' i t q
      obtain ⟨v, f, h1, h2, h3⟩ := RTs.get r q'
      have : f = [] := List.eq_nil_of_sublist_nil h2
      subst this
      refine ⟨v, ?_, h3⟩
      unfold L2.start
      rw [List.getElem?_append_left (by rw [List.length_map]; exact (List.getElem?_eq_some_iff.mp h1).1), List.getElem?_map, h1]
      rfl
    · cases eb : body (ts.map some ++ List.replicate (n - p) none) with
      | nx en' =>
        rw [eb] at h
        intro σ H' fp O S _
        exact h .non H' [] S.ex List.nodup_nil (fun a q => by cases q) rfl ⟨rfl, rfl⟩
      | rt t en' =>
        rw [eb] at h
        have h : (match (if clean t = true then Rs.ok t else Rs.no) with
          | .ok t => ∀ v H' fq, Exn H H' → fq.Nodup → (∀ a ∈ fq, H a = none) → clean t = true → RT K (gh H (fun a => a ∈ fq) H') H' H t v fq → Q v H'
          | .er c => ∀ H', Exn H H' → E (.ref (cl c)) none H'
          | .no => False) := h
        by_cases hc : clean t = true
        · rw [if_pos hc] at h
          intro v σ H' fp O fq S _ nd fo dj r
          exact h v H' fq S.ex nd (fun a ha => S.nw a (fo a ha)) hc (RT.mono (gh_mono (fun a o _ q => q) fun a q => .inl (fo a q)) (Exn.refl _) (Exn.refl _) t v fq r)
        · rw [if_neg hc] at h; exact h.elim
      | bk en' => rw [eb] at h; exact h.elim
      | ct en' => rw [eb] at h; exact h.elim
      | er c en' =>
        rw [eb] at h
        intro σ H' fp O S _
        exact h H' S.ex
      | no => rw [eb] at h; exact h.elim
  · rw [if_neg e] at h; exact h.elim
end

/-! ### the rules for statements -/
section
variable {X : Cx} {W : WW} {s : Stmt} {ss : List Stmt} {e : Expr} {f g : DenS} {fa : En → Rs Tr} {pos : Pos}
theorem sb_nil : SndB X W [] dNext := pss_wk pss_nil fun _ _ _ h => ts_next h
theorem sb_cons (h1 : SndS X W s f) (h2 : SndB X W ss g) : SndB X W (s :: ss) (dSeq f g) := pss_wk (pss_cons h1 h2) fun _ _ _ h => ts_seq h
theorem sb_one (h1 : SndS X W s f) : SndB X W [s] f := pss_one h1
theorem ss_pass : SndS X W (.Pass pos) dNext := ps_wk ps_pass fun _ _ _ h => ts_next h
theorem ss_doc {x j} {p : Pos} : SndS X W (.Expr (.Constant (.str x) j p) pos) dNext := ps_wk ps_doc fun _ _ _ h => ts_next h
theorem ss_brk : SndS X W (.Break pos) dBrk := ps_wk ps_break fun _ _ _ h => ts_brk h
theorem ss_cnt : SndS X W (.Continue pos) dCnt := ps_wk ps_continue fun _ _ _ h => ts_cnt h
theorem ss_if {c : Expr} {a b : List Stmt} {fc : En → Rs Bool} (hc : SndT X W c fc) (ha : SndB X W a f) (hb : SndB X W b g) : SndS X W (.If c a b pos) (dIf fc f g) := ps_wk (ps_if hc ha hb) fun _ _ _ h => ts_if h
theorem ss_expr (he : Snd X W e fa) (hs : swapsWith e none pos.line X.env = pure false := by rfl) : SndS X W (.Expr e pos) (dDrop fa) := ps_wk (ps_expr he hs) fun _ _ _ h => ts_drop h
theorem ss_ret {g : DenX} (he : SndX X W e g) : SndS X W (.Return (some e) pos) (dRet g) := ps_wk (ps_ret he) fun _ _ _ h => ts_ret h
theorem ss_retN : SndS X W (.Return none pos) dRetN := ps_wk ps_retN fun _ _ _ h => ts_retN h
theorem sx_lift (he : Snd X W e fa) : SndX X W e (dLift fa) := pe_wk he fun _ _ _ h => tx_lift h
theorem sx_var (i : Nat) {x : Str} (h : PE X (.Name x pos) (tVar i)) : SndX X W (.Name x pos) (dMove i) := pe_wk h fun _ _ _ h => tx_move h
abbrev SndXs (X : Cx) (W : WW) (es : List Expr) (g : DenXs) : Prop := PA X es (tXA X.K W g)
theorem sxa_nil : SndXs X W [] dXNil := pa_wk pa_nil fun _ _ _ h => txa_nil h
theorem sxa_cons {es : List Expr} {g : DenX} {gs : DenXs} (h1 : SndX X W e g) (h2 : SndXs X W es gs) (h3 : starEach (e :: es) X.env = (false, eval e X.env) :: starEach es X.env := by rfl) : SndXs X W (e :: es) (dXCons g gs) := pa_wk (pa_cons h1 h2 h3) fun _ _ _ h => txa_cons h
end
end RP
namespace RP
open PySem L2

section
variable {X : Cx} {W : WW} {s : Stmt} {ss : List Stmt} {e o a b : Expr} {es : List Expr} {f g body : DenS} {fa fb fi : En → Rs Tr} {gx : DenX} {gs : DenXs} {p : DenP} {pos pos' apos cpos : Pos} {x : Str} {i j : Nat}
theorem sx_tup {k} (ha : SndXs X W es gs) : SndX X W (.Tuple es k pos) (dXTup gs) := pe_wk (pe_tup ha) fun _ _ _ h => tx_tup h
theorem ss_set (fz : Bool) (hN : X.N.Nodup) (hi : X.N[i]? = some x) (hx : Loc X.env.scope x) (he : Snd X W e fa) (hs : swapsWith e (some (.Name x pos')) pos.line X.env = pure false := by rfl) (hf : X.fn x = true ∨ X.env.scope.names.lookup x = some .local := by first | exact .inl rfl | exact .inr rfl | assumption) :
    SndS X W (.Assign [.Name x pos'] e pos) (dSet fz i fa) := ps_wk (ps_set hN hi hx he hs hf) fun _ _ _ h => ts_set h
theorem ss_setX (fz : Bool) (hN : X.N.Nodup) (hi : X.N[i]? = some x) (hx : Loc X.env.scope x) (he : SndX X W e gx) (hs : swapsWith e (some (.Name x pos')) pos.line X.env = pure false := by rfl) (hf : X.fn x = true ∨ X.env.scope.names.lookup x = some .local := by first | exact .inl rfl | exact .inr rfl | assumption) :
    SndS X W (.Assign [.Name x pos'] e pos) (dSetX fz i gx) := ps_wk (ps_set hN hi hx he hs hf) fun _ _ _ h => ts_setX h
theorem sp_name (i : Nat) (h : PE X (.Name x pos) (tVar i)) : SndP X W (.Name x pos) (pN i) := pe_wk h fun _ _ _ h => tp_name h
theorem sp_sub (hp : SndP X W a p) (hb : Snd X W b fi) (hs : PlainIx b) : SndP X W (.Subscript a b pos) (pSub p fi) := pe_wk (pe_ix ix_seq hp hb hs) fun _ _ _ h => tp_sub h
-- name = [.. for ..] on one line, the name a local
theorem ss_setLc (fz : Bool) {y : Str} {py : Pos} {elt tg iter : Expr} {ifs : List Expr} {scope : Scope} {own : List (Str × Nat)} {pos spos : Pos} {src : En → Rs (List Tr)} {T : Tg} {js : List Nat} {test : Option (En → Rs Bool)} {felt : En → Rs Tr} {g : TG} (hc : X.calm = true) (hN : X.N.Nodup) (hy : X.N[i]? = some y) (hyl : X.env.scope.names.lookup y = some .local)
    (hsw : swapsWith (.ListComp elt [⟨tg, iter, ifs, 0⟩] scope pos) (some (.Name y py)) spos.line X.env = pure true)
    (hi : SndI X W true tg iter src) (ok : BlkOk X.N X.env.scope scope own)
    (hg : ∀ (s : Shared) (H : Hp) (C : Addr) (cl : List (Str × Addr)) (fp : List Addr), PG (X.blk s H scope (compEnvC scope cl C X.env) fp) tg g) (gk : GOk X.K g T js) (hj : ∀ j ∈ js, j ∈ own.map (·.2))
    (ht : ∀ (s : Shared) (H : Hp) (C : Addr) (cl : List (Str × Addr)) (fp : List Addr), PTs (X.blk s H scope (compEnvC scope cl C X.env) fp) ifs (tOpt X.K test))
    (he : ∀ (s : Shared) (H : Hp) (C : Addr) (cl : List (Str × Addr)) (fp : List Addr), PE (X.blk s H scope (compEnvC scope cl C X.env) fp) elt (tM X.K W0 felt)) (hs : ∀ x, foldedSetIterable iter X.env x = pure x := by intro _; rfl) :
    SndS X W (.Assign [.Name y py] (.ListComp elt [⟨tg, iter, ifs, 0⟩] scope pos) spos) (dSet fz i (dComp src T (own.map (·.2)) test felt)) :=
  ps_wk (ps_setLc hc hN hy hyl hsw hi ok hg ht he hs) fun D σ H h => tm_comp gk hj (ts_set h)
-- a, b = e
theorem ss_unp {bz : Bool} {y : Str} {px py pt : Pos} {kt} (hc : X.calm = true) (hN : X.N.Nodup) (hi : X.N[i]? = some x) (hj : X.N[j]? = some y) (hx : Loc X.env.scope x) (hy : Loc X.env.scope y) (he : Snd X W e fa) (hs : swapsWithSole [.Tuple [.Name x px, .Name y py] kt pt] e pos.line X.env = pure false := by rfl) (hw : swappedStores [.Tuple [.Name x px, .Name y py] kt pt] e X.env = pure none := by rfl)
    (hf : X.fn x = true ∨ X.env.scope.names.lookup x = some .local := by first | exact .inl rfl | exact .inr rfl | assumption) (hf2 : X.fn y = true ∨ X.env.scope.names.lookup y = some .local := by first | exact .inl rfl | exact .inr rfl | assumption) :
    SndS X W (.Assign [.Tuple [.Name x px, .Name y py] kt pt] e pos) (dUnp bz i j fa) :=
  ps_wk (ps_asg he (pg_tup hc (pgs_cons (pg_name hN hi hx hf) (pgs_cons (pg_name hN hj hy hf2) pgs_nil))) hs hw) fun _ _ _ h => ts_unp h
-- methods
theorem ss_app (hp : SndP X W o p) (hg : SndX X W e gx) (hbase : attributeBase o "append" X.env (eval o X.env) = eval o X.env := by rfl)
    (hfew : ((backTo cpos (starEach (e :: []) X.env)).all (fun x => !x.1) && (backToKw cpos (keywordEach [] X.env)).all (fun x => x.1.isSome)
      && decide ((e :: []).length + ([] : List Keyword).length + (if ([] : List Keyword).isEmpty then 0 else 1) < 30)) = true := by rfl)
    (hline : (apos.endLine == cpos.line) = true := by rfl) (hs : starEach (e :: []) X.env = (false, eval e X.env) :: starEach [] X.env := by rfl) (hplain : (backTo cpos (starEach [] X.env)).any (·.1) = false := by rfl)
    (hsw : swapsWith (.Call (.Attribute o "append" apos) [e] [] cpos) none pos.line X.env = pure false := by rfl) : SndS X W (.Expr (.Call (.Attribute o "append" apos) [e] [] cpos) pos) (dApp p gx) :=
  ps_wk (ps_expr (pe_bm PySem.F.plainAttrs_list PySem.F.slot_list_append PySem.F.type_list_append mt_append hp (pa_cons hg pa_nil hs) hbase hfew hline hs hplain) hsw) fun _ _ _ h => ts_app h
theorem ss_ext (hp : SndP X W o p) (hg : SndX X W e gx) (hbase : attributeBase o "extend" X.env (eval o X.env) = eval o X.env := by rfl)
    (hfew : ((backTo cpos (starEach (e :: []) X.env)).all (fun x => !x.1) && (backToKw cpos (keywordEach [] X.env)).all (fun x => x.1.isSome)
      && decide ((e :: []).length + ([] : List Keyword).length + (if ([] : List Keyword).isEmpty then 0 else 1) < 30)) = true := by rfl)
    (hline : (apos.endLine == cpos.line) = true := by rfl) (hs : starEach (e :: []) X.env = (false, eval e X.env) :: starEach [] X.env := by rfl) (hplain : (backTo cpos (starEach [] X.env)).any (·.1) = false := by rfl)
    (hsw : swapsWith (.Call (.Attribute o "extend" apos) [e] [] cpos) none pos.line X.env = pure false := by rfl) : SndS X W (.Expr (.Call (.Attribute o "extend" apos) [e] [] cpos) pos) (dExt p gx) :=
  ps_wk (ps_expr (pe_bm PySem.F.plainAttrs_list PySem.F.slot_list_extend PySem.F.type_list_extend mt_extend hp (pa_cons hg pa_nil hs) hbase hfew hline hs hplain) hsw) fun _ _ _ h => ts_ext h
theorem ss_pop (hp : SndP X W o p) (hbase : attributeBase o "pop" X.env (eval o X.env) = eval o X.env := by rfl) (hline : (apos.endLine == cpos.line) = true := by rfl)
    (hsw : swapsWith (.Call (.Attribute o "pop" apos) [] [] cpos) none pos.line X.env = pure false := by rfl) : SndS X W (.Expr (.Call (.Attribute o "pop" apos) [] [] cpos) pos) (dPop p) :=
  ps_wk (ps_expr (pe_bm0 PySem.F.plainAttrs_list PySem.F.slot_list_pop PySem.F.type_list_pop (mt_pop) hp hbase hline) hsw) fun _ _ _ h => ts_pop h
theorem ss_put {spos : Pos} (hp : SndP X W o p) (hi : Snd X W b fi) (hg : SndX X W e gx) (ha : ∀ v, assign (.Subscript o b spos) X.env v = (do
      let ov ← holding [v] (eval o X.env)
      let iv ← holding [v, ov] (eval b X.env)
      standAt spos
      holding [v, ov, iv] (setItem ov iv v)
      release [v, ov, iv] []) := by intro _; rfl)
    (hs : swapsWithSole [.Subscript o b spos] e pos.line X.env = pure false := by rfl) (hw : swappedStores [.Subscript o b spos] e X.env = pure none := by rfl) :
    SndS X W (.Assign [.Subscript o b spos] e pos) (dPut p fi gx) := ps_wk (ps_asg hg (pg_sub hp hi set_list ha) hs hw) fun _ _ _ h => ts_put h
theorem ss_for {tg iter : Expr} {bd : List Stmt} {src : En → Rs (List Tr)} {T : Tg} {js : List Nat} {g : TG} (hp : PassesOwn (model X.prog X.w) X.A X.env X.xe) (hc : X.calm = true) (hi : SndI X W false tg iter src) (hg : PG X tg g) (gk : GOk X.K g T js) (hb : SndB X W bd body)
    (hs : ∀ x, foldedSetIterable iter X.env x = pure x := by intro _; rfl) : SndS X W (.For tg iter bd [] pos) (dFor src T body) := ps_wk (ps_for hp hc hi hg hb hs) fun _ _ _ h => ts_for gk h
theorem ss_while (n : Nat) {c : Expr} {bd : List Stmt} {fc : En → Rs Bool} (hp : PassesOwn (model X.prog X.w) X.A X.env X.xe) (hc : SndT X W c fc) (hb : SndB X W bd body) : SndS X W (.While c bd [] pos) (dWhile n fc body) :=
  ps_wk (ps_while hp hc hb) fun _ _ _ h => ts_while h
theorem ss_raise {Wx : WX} {cl : Str → Addr} {c : Str} (hc : X.calm = true) (tk : Takes X Wx) (he : PMk X e (fun _ H Q => Q (.ref (cl c)) none H)) : SndS X (wOf cl Wx) (.Raise (some e) none pos) (dRaise c) :=
  ps_wk (ps_raise hc tk he) fun D σ H h => by
    obtain ⟨F, en, fp, O, S, h⟩ := h
    exact h σ H fp O S (Exn.refl _)
end
-- a def stands
section
variable {P : Program} {w : World} {K : PySem.W.Frag} {mg : Str → Option Value} {base : Heap} {cl : Str → Addr}
theorem fn_okX {x qual : Str} {st : Stmt} {f : Addr} {fd : FuncData} {N ps : List Str} {k p n : Nat} {body : DenS} (F : Fun K x qual st f fd) (S : FnScope N ps (defScope st)) (hp : ps.length = p) (hn : N.length = n)
    (hb : ∀ (cdv : Value) (A : Around) (outer : List Env) (s : Shared) (H : Hp) (E : XK), Room k (A.deeper (PyProof.Rows.envOfC qual (defScope st) s.heap.objs.size f cdv)) →
      SndB (cxOf (L2.CX P w) P w K mg base N qual (defScope st) f cdv A outer s H E) (wOf cl (fun c d _ H' => E c d H')) (defBody st) body) :
    FnOk P w K mg base (L2.CX P w) (k + 1) f fd ps (spOf K cl (dDef p n body)) :=
  F.okX S (fun vs H Q E h => (sp_len h).trans hp.symm) fun cdv A outer s H vs Q E hr h => ⟨_, hb cdv A outer s H E hr, def_start h hn⟩
-- the law itself: nothing is let out
def spLaw (K : PySem.W.Frag) : Sp := fun vs H Q _ => ∃ (a : Addr) (ns : List Int), vs = [.ref a] ∧ SqL K H a (ns.map V.int) ∧ ns.length ≤ 63 ∧ (∀ z ∈ ns, z.natAbs.log2 ≤ 1048576) ∧ ∀ H', Q (.bl true) H'
theorem log_of {z : Int} (h : Builtin.Int.intBits z ≤ 1048576) : z.natAbs.log2 ≤ 1048576 := by
  unfold Builtin.Int.intBits at h
  split at h
  · rename_i e
    have : z = 0 := by simpa using e
    subst this
    decide
  · omega
theorem fn_ok0 {x qual : Str} {st : Stmt} {f : Addr} {fd : FuncData} {N ps : List Str} {k : Nat} {body : DenS} (F : Fun K x qual st f fd) (S : FnScope N ps (defScope st))
    (hb : ∀ (cdv : Value) (A : Around) (outer : List Env) (s : Shared) (H : Hp) (E : XK), Room k (A.deeper (PyProof.Rows.envOfC qual (defScope st) s.heap.objs.size f cdv)) →
      SndB (cxOf CX0 P w K mg base N qual (defScope st) f cdv A outer s H E).nox (wOf cl (fun _ _ _ _ => False)) (defBody st) body)
    (hl : ∀ ns : List Int, ns.length ≤ 63 → (∀ z ∈ ns, z.natAbs.log2 ≤ 1048576) → (∀ d, finD (body ([some (.s ns)] ++ List.replicate (N.length - 1) none)) = d → d = .ok (.d (.bool true)))) (hp : ps.length = 1) :
    FnOk P w K mg base CX0 (k + 1) f fd ps (spLaw K) :=
  F.ok S (fun vs H Q E h => by obtain ⟨a, ns, rfl, _⟩ := h; exact hp.symm) fun cdv A outer s H vs Q E hr h => by
    obtain ⟨a, ns, rfl, h1, h2, hbits, h3⟩ := h
    refine ⟨_, hb cdv A outer s H E hr, ?_⟩
    have h4 := def_start (K := K) (cl := cl) (p := 1) (n := N.length) (body := body) (vs := [.ref a]) (Q := Q) (E := fun _ _ _ => False) (H := H) (N := N) ⟨[.s ns], ⟨.ref a, [], [], [], rfl, rfl, ⟨rfl, a, rfl, h1⟩, rfl, rfl⟩, (fun t ht => by
      rcases List.mem_singleton.mp ht with rfl
      rfl), by
        unfold dDef
        rw [if_pos (show [Tr.s ns].length = 1 from rfl)]
        have e := hl ns h2 hbits _ rfl
        show (match finD (body ([some (.s ns)] ++ List.replicate (N.length - 1) none)) with | .ok t => _ | .er c => _ | .no => _)
        rw [e]
        intro v H' fq _ _ _ _ r
        have ev : v = .bl true := r.2
        rw [ev]
        exact h3 H'⟩ rfl
    exact h4
end
end RP
namespace RP
open PySem L2

/-! ### comprehension blocks, by their names -/
def blkN (N : List Str) (sn cn : List (Str × NameKind)) (own : List (Str × Nat)) : Bool :=
  cn.all (fun y => cn.lookup y.1 == some y.2) && own.all (fun p => N[p.2]? == some p.1) &&
  cn.all (fun y => !(y.2 == .free) || (sn.lookup y.1 == some .cell || sn.lookup y.1 == some .free)) &&
  cn.all (fun y => !(y.2 == .local || y.2 == .cell) || (own.any (fun p => p.1 == y.1) || !(N.contains y.1)))
theorem blk_by {N : List Str} {sc scope : Scope} {own : List (Str × Nat)} (sn cn : List (Str × NameKind)) (hk : scope.kind = .function := by rfl) (h1 : sc.names = sn := by rfl) (h2 : scope.names = cn := by rfl) (h : blkN N sn cn own = true := by decide +kernel) : BlkOk N sc scope own := by
  subst h1 h2
  unfold blkN at h
  simp only [Bool.and_eq_true, List.all_eq_true] at h
  obtain ⟨⟨⟨h1, h2⟩, h3⟩, h4⟩ := h
  refine ⟨hk, fun y hy => by simpa using h1 y hy, fun p hp => by simpa using h2 p hp, fun y hy e => ?_, fun y hy e => ?_⟩
  · have q := h3 y hy
    rw [e] at q
    have q' : (sc.names.lookup y.1 == some NameKind.cell || sc.names.lookup y.1 == some NameKind.free) = true := by simpa using q
    rw [Bool.or_eq_true] at q'
    exact q'.imp (by simp) (by simp)
  · have q := h4 y hy
    have q' : (own.any (fun p => p.1 == y.1) || !(N.contains y.1)) = true := by
      rcases e with e | e <;> (rw [e] at q; simpa using q)
    rw [Bool.or_eq_true] at q'
    rcases q' with q | q
    · obtain ⟨p, hp, e⟩ := List.any_eq_true.mp q
      exact .inl (List.mem_map.mpr ⟨p, hp, by simpa using e⟩)
    · exact .inr (by simpa using q)

section
variable {X : Cx} {W : WW} {e a b c : Expr} {es : List Expr} {fa fb fc : En → Rs Tr} {fr : En → Rs (List Tr)} {p pos : Pos}
/-! ### built-ins -/
theorem sn_len (hg : Gl X "len") (hm : X.mg "len" = none) (ha : Snd X W a fa) (he : starEach [a] X.env = (false, eval a X.env) :: starEach [] X.env := by rfl) (hpl : (backTo pos (starEach [] X.env)).any (·.1) = false := by rfl) : Snd X W (.Call (.Name "len" p) [a] [] pos) (dUn gLen fa) :=
  sn_bi (pe_callB call_len hg hm PySem.boot_len (sa_cons ha sa_nil he) (he := he) (hpl := hpl)) c_len
theorem sn_sum (hc : X.calm = true) (hg : Gl X "sum") (hm : X.mg "sum" = none) (ha : Snd X W a fa) (he : starEach [a] X.env = (false, eval a X.env) :: starEach [] X.env := by rfl) (hpl : (backTo pos (starEach [] X.env)).any (·.1) = false := by rfl) : Snd X W (.Call (.Name "sum" p) [a] [] pos) (dUn (gD gSumD) fa) :=
  sn_bi (pe_callB (call_sumA hc) hg hm PyProof.Rows.boot_sum (sa_cons ha sa_nil he) (he := he) (hpl := hpl)) c_sum
theorem sn_all (hc : X.calm = true) (hg : Gl X "all") (hm : X.mg "all" = none) (ha : Snd X W a fa) (he : starEach [a] X.env = (false, eval a X.env) :: starEach [] X.env := by rfl) (hpl : (backTo pos (starEach [] X.env)).any (·.1) = false := by rfl) : Snd X W (.Call (.Name "all" p) [a] [] pos) (dUn (gD gAllD) fa) :=
  sn_bi (pe_callB (cr_all hc) hg hm PyProof.Rows.boot_all (sa_cons ha sa_nil he) (he := he) (hpl := hpl)) c_all
theorem sn_min (hc : X.calm = true) (hg : Gl X "min") (hm : X.mg "min" = none) (ha : Snd X W a fa) (he : starEach [a] X.env = (false, eval a X.env) :: starEach [] X.env := by rfl) (hpl : (backTo pos (starEach [] X.env)).any (·.1) = false := by rfl) : Snd X W (.Call (.Name "min" p) [a] [] pos) (dUn (gD gMinD) fa) :=
  sn_bi (pe_callB (cr_min hc) hg hm PyProof.Rows.boot_min (sa_cons ha sa_nil he) (he := he) (hpl := hpl)) c_min
theorem sn_max (hc : X.calm = true) (hg : Gl X "max") (hm : X.mg "max" = none) (ha : Snd X W a fa) (he : starEach [a] X.env = (false, eval a X.env) :: starEach [] X.env := by rfl) (hpl : (backTo pos (starEach [] X.env)).any (·.1) = false := by rfl) : Snd X W (.Call (.Name "max" p) [a] [] pos) (dUn (gD gMaxD) fa) :=
  sn_bi (pe_callB (cr_max hc) hg hm PyProof.Rows.boot_max (sa_cons ha sa_nil he) (he := he) (hpl := hpl)) c_max
theorem sn_min2 (hc : X.calm = true) (hg : Gl X "min") (hm : X.mg "min" = none) (ha : Snd X W a fa) (hb : Snd X W b fb) (he : starEach [a, b] X.env = (false, eval a X.env) :: starEach [b] X.env := by rfl) (he2 : starEach [b] X.env = (false, eval b X.env) :: starEach [] X.env := by rfl) (hpl : (backTo pos (starEach [b] X.env)).any (·.1) = false := by rfl) : Snd X W (.Call (.Name "min" p) [a, b] [] pos) (dBin gMin2 fa fb) :=
  sn_bi (pe_callB (call_min2 hc) hg hm PyProof.Rows.boot_min (sa_cons ha (sa_cons hb sa_nil he2) he) (he := he) (hpl := hpl)) c_min2
theorem sn_max2 (hc : X.calm = true) (hg : Gl X "max") (hm : X.mg "max" = none) (ha : Snd X W a fa) (hb : Snd X W b fb) (he : starEach [a, b] X.env = (false, eval a X.env) :: starEach [b] X.env := by rfl) (he2 : starEach [b] X.env = (false, eval b X.env) :: starEach [] X.env := by rfl) (hpl : (backTo pos (starEach [b] X.env)).any (·.1) = false := by rfl) : Snd X W (.Call (.Name "max" p) [a, b] [] pos) (dBin gMax2 fa fb) :=
  sn_bi (pe_callB (call_max2 hc) hg hm PyProof.Rows.boot_max (sa_cons ha (sa_cons hb sa_nil he2) he) (he := he) (hpl := hpl)) c_max2
theorem sn_int (hg : Gl X "int") (hm : X.mg "int" = none) (ha : Snd X W a fa) (he : starEach [a] X.env = (false, eval a X.env) :: starEach [] X.env := by rfl) (hpl : (backTo pos (starEach [] X.env)).any (·.1) = false := by rfl) : Snd X W (.Call (.Name "int" p) [a] [] pos) (dUn (gD gIntD) fa) :=
  sn_bi (pe_callTy call_intA hg hm PyProof.Rows.boot_int (sa_cons ha sa_nil he) (he := he) (hpl := hpl)) c_int
theorem sn_str (hg : Gl X "str") (hm : X.mg "str" = none) (ha : Snd X W a fa) (he : starEach [a] X.env = (false, eval a X.env) :: starEach [] X.env := by rfl) (hpl : (backTo pos (starEach [] X.env)).any (·.1) = false := by rfl) : Snd X W (.Call (.Name "str" p) [a] [] pos) (dUn (gD gStrD) fa) :=
  sn_bi (pe_callTy call_str_int hg hm PyProof.Rows.boot_str (sa_cons ha sa_nil he) (he := he) (hpl := hpl)) c_str
theorem sn_list (hg : Gl X "list") (hm : X.mg "list" = none) (ha : Snd X W a fa) (he : starEach [a] X.env = (false, eval a X.env) :: starEach [] X.env := by rfl) (hpl : (backTo pos (starEach [] X.env)).any (·.1) = false := by rfl) : Snd X W (.Call (.Name "list" p) [a] [] pos) (dUn gList fa) :=
  sn_bi (pe_callTy call_list_of hg hm PyProof.Rows.boot_list (sa_cons ha sa_nil he) (he := he) (hpl := hpl)) c_list
theorem sn_tuple (hg : Gl X "tuple") (hm : X.mg "tuple" = none) (ha : Snd X W a fa) (he : starEach [a] X.env = (false, eval a X.env) :: starEach [] X.env := by rfl) (hpl : (backTo pos (starEach [] X.env)).any (·.1) = false := by rfl) : Snd X W (.Call (.Name "tuple" p) [a] [] pos) (dUn gTuple fa) :=
  sn_bi (pe_callTy call_tuple_of hg hm PyProof.Rows.boot_tuple (sa_cons ha sa_nil he) (he := he) (hpl := hpl)) c_tuple
-- comparisons
theorem units65 {k : Nat} {A : Around} (r : Room k A) : A.units + 65 < cLine := by have := r.un; omega
variable {k : Nat}
theorem sn_eq (hr : Room k X.A) (ha : Snd X W a fa) (hb : Snd X W b fb) : Snd X W (.Compare a [.Eq] [b] pos) (dBin gEq fa fb) := sn_cmp (op_eqD hr.units) c_eq ha hb (nomark _)
theorem sn_ne (hr : Room k X.A) (ha : Snd X W a fa) (hb : Snd X W b fb) : Snd X W (.Compare a [.NotEq] [b] pos) (dBin gNe fa fb) := sn_cmp (op_neD hr.units) c_ne ha hb (nomark _)
theorem sn_lt (ha : Snd X W a fa) (hb : Snd X W b fb) : Snd X W (.Compare a [.Lt] [b] pos) (dBin gLt fa fb) := sn_cmp op_lt c_B ha hb (nomark _)
theorem sn_le (ha : Snd X W a fa) (hb : Snd X W b fb) : Snd X W (.Compare a [.LtE] [b] pos) (dBin gLe fa fb) := sn_cmp op_le c_B ha hb (nomark _)
theorem sn_gt (ha : Snd X W a fa) (hb : Snd X W b fb) : Snd X W (.Compare a [.Gt] [b] pos) (dBin gGt fa fb) := sn_cmp op_gt c_B ha hb (nomark _)
theorem sn_ge (ha : Snd X W a fa) (hb : Snd X W b fb) : Snd X W (.Compare a [.GtE] [b] pos) (dBin gGe fa fb) := sn_cmp op_ge c_B ha hb (nomark _)
theorem sn_in (hr : Room k X.A) (ha : Snd X W a fa) (hb : Snd X W b fb) (hm : behindInMarks .In b = false := by rfl) : Snd X W (.Compare a [.In] [b] pos) (dBin gIn fa fb) := sn_cmp (op_inD (units65 hr)) c_in ha hb hm
theorem sn_nin (hr : Room k X.A) (ha : Snd X W a fa) (hb : Snd X W b fb) (hm : behindInMarks .NotIn b = false := by rfl) : Snd X W (.Compare a [.NotIn] [b] pos) (dBin gNin fa fb) := sn_cmp (op_notInD (units65 hr)) c_nin ha hb hm
theorem sn_inT (ha : Snd X W a fa) (hb : Snd X W b fb) (hm : behindInMarks .In b = false := by rfl) : Snd X W (.Compare a [.In] [b] pos) (dBin (gD (gInT false)) fa fb) := sn_cmp op_in_seq (c_inT false) ha hb hm
theorem sn_ninT (ha : Snd X W a fa) (hb : Snd X W b fb) (hm : behindInMarks .NotIn b = false := by rfl) : Snd X W (.Compare a [.NotIn] [b] pos) (dBin (gD (gInT true)) fa fb) := sn_cmp op_notIn_seq (c_inT true) ha hb hm
theorem sn_inS (ha : Snd X W a fa) (hb : Snd X W b fb) (hm : behindInMarks .In b = false := by rfl) : Snd X W (.Compare a [.In] [b] pos) (dBin (gD (gInS false)) fa fb) := sn_cmp op_in_sign (c_inS false) ha hb hm
theorem sn_ninS (ha : Snd X W a fa) (hb : Snd X W b fb) (hm : behindInMarks .NotIn b = false := by rfl) : Snd X W (.Compare a [.NotIn] [b] pos) (dBin (gD (gInS true)) fa fb) := sn_cmp op_notIn_sign (c_inS true) ha hb hm
theorem sn_isN (ha : Snd X W a fa) (hb : Snd X W b fb) : Snd X W (.Compare a [.Is] [b] pos) (dBin (gD (gIsN false)) fa fb) := sn_cmp op_isN c_isN ha hb (nomark _)
theorem sn_notN (ha : Snd X W a fa) (hb : Snd X W b fb) : Snd X W (.Compare a [.IsNot] [b] pos) (dBin (gD (gIsN true)) fa fb) := sn_cmp op_notN c_notN ha hb (nomark _)
theorem sn_notB (ha : Snd X W a fa) (hb : Snd X W b fb) : Snd X W (.Compare a [.IsNot] [b] pos) (dBin (gD gIsB) fa fb) := sn_cmp op_isnot_bl c_notB ha hb (nomark _)
theorem st_eq (hr : Room k X.A) (ha : Snd X W a fa) (hb : Snd X W b fb) : SndT X W (.Compare a [.Eq] [b] pos) (dB (dBin gEq fa fb)) := st_cmp (op_eqD hr.units) c_eq ha hb (nomark _)
theorem st_ne (hr : Room k X.A) (ha : Snd X W a fa) (hb : Snd X W b fb) : SndT X W (.Compare a [.NotEq] [b] pos) (dB (dBin gNe fa fb)) := st_cmp (op_neD hr.units) c_ne ha hb (nomark _)
theorem st_lt (ha : Snd X W a fa) (hb : Snd X W b fb) : SndT X W (.Compare a [.Lt] [b] pos) (dB (dBin gLt fa fb)) := st_cmp op_lt c_B ha hb (nomark _)
theorem st_le (ha : Snd X W a fa) (hb : Snd X W b fb) : SndT X W (.Compare a [.LtE] [b] pos) (dB (dBin gLe fa fb)) := st_cmp op_le c_B ha hb (nomark _)
theorem st_gt (ha : Snd X W a fa) (hb : Snd X W b fb) : SndT X W (.Compare a [.Gt] [b] pos) (dB (dBin gGt fa fb)) := st_cmp op_gt c_B ha hb (nomark _)
theorem st_ge (ha : Snd X W a fa) (hb : Snd X W b fb) : SndT X W (.Compare a [.GtE] [b] pos) (dB (dBin gGe fa fb)) := st_cmp op_ge c_B ha hb (nomark _)
theorem st_in (hr : Room k X.A) (ha : Snd X W a fa) (hb : Snd X W b fb) (hm : behindInMarks .In b = false := by rfl) : SndT X W (.Compare a [.In] [b] pos) (dB (dBin gIn fa fb)) := st_cmp (op_inD (units65 hr)) c_in ha hb hm
theorem st_nin (hr : Room k X.A) (ha : Snd X W a fa) (hb : Snd X W b fb) (hm : behindInMarks .NotIn b = false := by rfl) : SndT X W (.Compare a [.NotIn] [b] pos) (dB (dBin gNin fa fb)) := st_cmp (op_notInD (units65 hr)) c_nin ha hb hm
theorem st_inT (ha : Snd X W a fa) (hb : Snd X W b fb) (hm : behindInMarks .In b = false := by rfl) : SndT X W (.Compare a [.In] [b] pos) (dB (dBin (gD (gInT false)) fa fb)) := st_cmp op_in_seq (c_inT false) ha hb hm
theorem st_ninT (ha : Snd X W a fa) (hb : Snd X W b fb) (hm : behindInMarks .NotIn b = false := by rfl) : SndT X W (.Compare a [.NotIn] [b] pos) (dB (dBin (gD (gInT true)) fa fb)) := st_cmp op_notIn_seq (c_inT true) ha hb hm
theorem st_inS (ha : Snd X W a fa) (hb : Snd X W b fb) (hm : behindInMarks .In b = false := by rfl) : SndT X W (.Compare a [.In] [b] pos) (dB (dBin (gD (gInS false)) fa fb)) := st_cmp op_in_sign (c_inS false) ha hb hm
theorem st_ninS (ha : Snd X W a fa) (hb : Snd X W b fb) (hm : behindInMarks .NotIn b = false := by rfl) : SndT X W (.Compare a [.NotIn] [b] pos) (dB (dBin (gD (gInS true)) fa fb)) := st_cmp op_notIn_sign (c_inS true) ha hb hm
theorem st_isN (ha : Snd X W a fa) (hb : Snd X W b fb) : SndT X W (.Compare a [.Is] [b] pos) (dB (dBin (gD (gIsN false)) fa fb)) := st_cmp op_isN c_isN ha hb (nomark _)
theorem st_notN (ha : Snd X W a fa) (hb : Snd X W b fb) : SndT X W (.Compare a [.IsNot] [b] pos) (dB (dBin (gD (gIsN true)) fa fb)) := st_cmp op_notN c_notN ha hb (nomark _)
theorem st_notB (ha : Snd X W a fa) (hb : Snd X W b fb) : SndT X W (.Compare a [.IsNot] [b] pos) (dB (dBin (gD gIsB) fa fb)) := st_cmp op_isnot_bl c_notB ha hb (nomark _)
end

/-! ### the text's own defs -/
-- the def that stands under x
def Cal (P : Program) (w : World) (K : PySem.W.Frag) (mg : Str → Option Value) (base : Heap) (cl : Str → Addr) (x : Str) (k : Nat) (den : Den) : Prop :=
  ∃ (f : Addr) (fd : FuncData) (ps : List Str), FnOk P w K mg base (L2.CX P w) k f fd ps (spOf K cl den) ∧ mg x = some (.ref f) ∧ PySem.W.keepIn K (.ref f) = true ∧ Binds K fd ps []
section
variable {X : Cx} {Wx : WX} {cl : Str → Addr}
theorem sn_cal {k k0 : Nat} {den : Den} {fr : En → Rs (List Tr)} {x : Str} {p pos : Pos} {e : Expr} {es : List Expr} (c : Cal X.prog X.w X.K X.mg X.base cl x k den) (tk : Takes X Wx) (hr : Room k0 X.A) (hk : k ≤ k0) (hg : Gl X x)
    (ha : SndA X (wOf cl Wx) (e :: es) fr) (hdb : (x == ("__debug__" : Str)) = false := by decide) (he : starEach (e :: es) X.env = (false, eval e X.env) :: starEach es X.env := by rfl) (hpl : (backTo pos (starEach es X.env)).any (·.1) = false := by rfl) :
    Snd X (wOf cl Wx) (.Call (.Name x p) (e :: es) [] pos) (dCall den fr) := by
  obtain ⟨f, fd, ps, F, h1, h2, h3⟩ := c
  exact sn_call tk F (hr.mono hk) hg h1 h2 h3 ha hdb he hpl
theorem sn_cal0 {k k0 : Nat} {den : Den} {fr : En → Rs (List Tr)} {x : Str} {p pos : Pos} {e : Expr} {es : List Expr} (c : Cal X.prog X.w X.K X.mg X.base cl x k den) (hr : Room k0 X.A) (hk : k ≤ k0) (hg : Gl X x)
    (ha : SndA X W0 (e :: es) fr) (hdb : (x == ("__debug__" : Str)) = false := by decide) (he : starEach (e :: es) X.env = (false, eval e X.env) :: starEach es X.env := by rfl) (hpl : (backTo pos (starEach es X.env)).any (·.1) = false := by rfl) :
    Snd X W0 (.Call (.Name x p) (e :: es) [] pos) (dCall den fr) := sn_cal (Wx := fun _ _ _ _ => False) c takes0 hr hk hg ha hdb he hpl
end
section
variable {P : Program} {w : World} {K : PySem.W.Frag} {mg : Str → Option Value} {base : Heap} {cl : Str → Addr}
theorem cal_of {x : Str} {st : Stmt} {f : Addr} {fd : FuncData} {ps : List Str} {k : Nat} {den : Den} (F : Fun K x x st f fd) (g : mg x = some (.ref f)) (b : Binds K fd ps []) (h : FnOk P w K mg base (L2.CX P w) k f fd ps (spOf K cl den)) : Cal P w K mg base cl x k den :=
  ⟨f, fd, ps, h, g, F.kp, b⟩
end
end RP
namespace RP
open PySem L2

/-! ### data: plain things are equal when they are the same -/
mutual
def pln : PyData → Bool
  | .none => true
  | .bool _ => false
  | .int _ => true
  | .str _ => true
  | .list xs => plns xs
  | .tuple xs => plns xs
  | .dict _ => false
def plns : List PyData → Bool
  | [] => true
  | x :: xs => pln x && plns xs
end
mutual
theorem eqv_iff : ∀ (x y : PyData), pln x = true → pln y = true → (PyData.eqv x y = true ↔ x = y)
  | .none, y, _, h => by cases y <;> simp [PyData.eqv, pln] at h ⊢
  | .bool _, _, h, _ => by cases h
  | .int i, y, _, h => by cases y <;> simp [PyData.eqv, pln] at h ⊢
  | .str i, y, _, h => by cases y <;> simp [PyData.eqv, pln] at h ⊢
  | .list xs, y, hx, h => by
    cases y with
    | list ys =>
      have e := eqvs_iff xs ys hx h
      simp only [PyData.eqv, e, PyData.list.injEq]
    | _ => simp [PyData.eqv, pln] at h ⊢
  | .tuple xs, y, hx, h => by
    cases y with
    | tuple ys =>
      have e := eqvs_iff xs ys hx h
      simp only [PyData.eqv, e, PyData.tuple.injEq]
    | _ => simp [PyData.eqv, pln] at h ⊢
  | .dict _, _, h, _ => by cases h
theorem eqvs_iff : ∀ (x y : List PyData), plns x = true → plns y = true → (PyData.eqvAll x y = true ↔ x = y)
  | [], [], _, _ => by simp [PyData.eqvAll]
  | [], _ :: _, _, _ => by simp [PyData.eqvAll]
  | _ :: _, [], _, _ => by simp [PyData.eqvAll]
  | x :: xs, y :: ys, hx, hy => by
    have hx' : (pln x && plns xs) = true := hx
    have hy' : (pln y && plns ys) = true := hy
    rw [Bool.and_eq_true] at hx' hy'
    have e1 := eqv_iff x y hx'.1 hy'.1
    have e2 := eqvs_iff xs ys hx'.2 hy'.2
    rw [PyData.eqvAll, Bool.and_eq_true, e1, e2, List.cons.injEq]
end
open Classical in
theorem eqv_dec (x y : PyData) (hx : pln x = true) (hy : pln y = true) : PyData.eqv x y = decide (x = y) := by
  rw [Bool.eq_iff_iff, eqv_iff x y hx hy, decide_eq_true_iff]

@[simp] theorem comp_fun {α β γ : Type} (f : β → γ) (g : α → β) : f ∘ g = fun x => f (g x) := rfl
/-! ### trees -/
abbrev di (i : Int) : Tr := .d (.int i)
abbrev db (b : Bool) : Tr := .d (.bool b)
@[simp] theorem data_d (x : PyData) : data (.d x) = some x := rfl
@[simp] theorem data_e (x : PyData) : data (.e x) = some x := rfl
@[simp] theorem data_v (x : PyData) : data (.v x) = some x := rfl
@[simp] theorem data_ol (ts : List Tr) : data (.ol ts) = (datas ts).map PyData.list := rfl
@[simp] theorem data_tp (ts : List Tr) : data (.tp ts) = (datas ts).map PyData.tuple := rfl
@[simp] theorem data_s (ns : List Int) : data (.s ns) = none := rfl
@[simp] theorem datas_nil : datas [] = some [] := rfl
@[simp] theorem datas_cons (t : Tr) (ts : List Tr) : datas (t :: ts) = (data t).bind fun d => (datas ts).map fun ds => d :: ds := rfl
@[simp] theorem datas_map (xs : List PyData) : datas (xs.map Tr.d) = some xs := by
  induction xs with
  | nil => rfl
  | cons x xs ih => simp [ih]
@[simp] theorem datas_mapf {α : Type} (f : α → PyData) (xs : List α) : datas (xs.map fun a => Tr.d (f a)) = some (xs.map f) := by
  induction xs with
  | nil => rfl
  | cons x xs ih => simp [ih]
@[simp] theorem datas_app : ∀ (a b : List Tr), datas (a ++ b) = (datas a).bind fun x => (datas b).map fun y => x ++ y
  | [], b => by simp
  | t :: a, b => by
    rw [List.cons_append, datas_cons, datas_app a b, datas_cons]
    cases data t with
    | none => rfl
    | some d =>
      cases datas a with
      | none => rfl
      | some x =>
        cases datas b with
        | none => rfl
        | some y => rfl
@[simp] theorem clean_d (x : PyData) : clean (.d x) = true := rfl
@[simp] theorem clean_e (x : PyData) : clean (.e x) = false := rfl
@[simp] theorem clean_v (x : PyData) : clean (.v x) = false := rfl
@[simp] theorem clean_s (x : List Int) : clean (.s x) = false := rfl
@[simp] theorem clean_ol (ts : List Tr) : clean (.ol ts) = cleans ts := rfl
@[simp] theorem clean_tp (ts : List Tr) : clean (.tp ts) = cleans ts := rfl
@[simp] theorem cleans_nil : cleans [] = true := rfl
@[simp] theorem cleans_cons (t : Tr) (ts : List Tr) : cleans (t :: ts) = (clean t && cleans ts) := rfl
@[simp] theorem cleans_map (xs : List PyData) : cleans (xs.map Tr.d) = true := by
  induction xs with
  | nil => rfl
  | cons x xs ih => simp [ih]
@[simp] theorem cleans_mapf {α : Type} (f : α → PyData) (xs : List α) : cleans (xs.map fun a => Tr.d (f a)) = true := by
  induction xs with
  | nil => rfl
  | cons x xs ih => simp [ih]
@[simp] theorem noV_d (x : PyData) : noV (.d x) = true := rfl
@[simp] theorem noV_e (x : PyData) : noV (.e x) = true := rfl
@[simp] theorem noV_v (x : PyData) : noV (.v x) = false := rfl
@[simp] theorem noV_s (x : List Int) : noV (.s x) = true := rfl
@[simp] theorem noV_ol (ts : List Tr) : noV (.ol ts) = noVs ts := rfl
@[simp] theorem noV_tp (ts : List Tr) : noV (.tp ts) = noVs ts := rfl
@[simp] theorem noVs_nil : noVs [] = true := rfl
@[simp] theorem noVs_cons (t : Tr) (ts : List Tr) : noVs (t :: ts) = (noV t && noVs ts) := rfl
@[simp] theorem noVs_map (xs : List PyData) : noVs (xs.map Tr.d) = true := by
  induction xs with
  | nil => rfl
  | cons x xs ih => simp [ih]
@[simp] theorem noVs_mapf {α : Type} (f : α → PyData) (xs : List α) : noVs (xs.map fun a => Tr.d (f a)) = true := by
  induction xs with
  | nil => rfl
  | cons x xs ih => simp [ih]
@[simp] theorem lf_none : lf .none = true := rfl
@[simp] theorem lf_bool (b : Bool) : lf (.bool b) = true := rfl
@[simp] theorem lf_int (b : Int) : lf (.int b) = true := rfl
@[simp] theorem lf_str (b : Str) : lf (.str b) = true := rfl
@[simp] theorem lf_list (b : List PyData) : lf (.list b) = false := rfl
@[simp] theorem lf_tuple (b : List PyData) : lf (.tuple b) = lfs b := rfl
@[simp] theorem lfs_nil : lfs [] = true := rfl
@[simp] theorem lfs_cons (t : PyData) (ts : List PyData) : lfs (t :: ts) = (lf t && lfs ts) := rfl
theorem lfs_all {α : Type} (f : α → PyData) (h : ∀ a, lf (f a) = true) (xs : List α) : lfs (xs.map f) = true := by
  induction xs with
  | nil => rfl
  | cons x xs ih => simp [ih, h]
@[simp] theorem lfs_ints (xs : List Int) : lfs (xs.map .int) = true := lfs_all _ (fun _ => rfl) xs
@[simp] theorem mkE_none : mkE .none = .d .none := rfl
@[simp] theorem mkE_int (i : Int) : mkE (.int i) = .d (.int i) := rfl
@[simp] theorem mkE_bool (i : Bool) : mkE (.bool i) = .d (.bool i) := rfl
@[simp] theorem mkE_str (i : Str) : mkE (.str i) = .d (.str i) := rfl
@[simp] theorem mkE_list (i : List PyData) : mkE (.list i) = .e (.list i) := rfl
theorem mkE_tup (i : List PyData) (h : lfs i = true) : mkE (.tuple i) = .d (.tuple i) := if_pos h
theorem mkE_tupE (i : List PyData) (h : lfs i = false) : mkE (.tuple i) = .e (.tuple i) := by unfold mkE; rw [if_neg]; show ¬ lfs i = true; rw [h]; decide
@[simp] theorem mkE_tups (i : List PyData) : mkE (.tuple i) = if lfs i then .d (.tuple i) else .e (.tuple i) := rfl
@[simp] theorem mkV_none : mkV .none = .d .none := rfl
@[simp] theorem mkV_int (i : Int) : mkV (.int i) = .d (.int i) := rfl
@[simp] theorem mkV_bool (i : Bool) : mkV (.bool i) = .d (.bool i) := rfl
@[simp] theorem mkV_str (i : Str) : mkV (.str i) = .d (.str i) := rfl
@[simp] theorem mkV_list (i : List PyData) : mkV (.list i) = .v (.list i) := rfl
theorem mkV_tup (i : List PyData) (h : lfs i = true) : mkV (.tuple i) = .d (.tuple i) := if_pos h
theorem mkV_tupV (i : List PyData) (h : lfs i = false) : mkV (.tuple i) = .v (.tuple i) := by unfold mkV; rw [if_neg]; show ¬ lfs i = true; rw [h]; decide
@[simp] theorem mkV_tups (i : List PyData) : mkV (.tuple i) = if lfs i then .d (.tuple i) else .v (.tuple i) := rfl
@[simp] theorem frz_d (x : PyData) : frz (.d x) = .d x := rfl
@[simp] theorem frz_e (x : PyData) : frz (.e x) = .e x := rfl
@[simp] theorem frz_s (x : List Int) : frz (.s x) = .s x := rfl
@[simp] theorem frzIf_true (t : Tr) : frzIf true t = frz t := rfl
@[simp] theorem frzIf_false (t : Tr) : frzIf false t = t := rfl
@[simp] theorem frz_nil : frz (.ol []) = .d (.list []) := rfl
@[simp] theorem frz_ol (xs : List PyData) : frz (.ol (xs.map Tr.d)) = .d (.list xs) := by unfold frz; simp
@[simp] theorem frz_olf {α : Type} (f : α → PyData) (xs : List α) : frz (.ol (xs.map fun a => Tr.d (f a))) = .d (.list (xs.map f)) := by unfold frz; simp
@[simp] theorem allD_map (xs : List PyData) : allD (xs.map Tr.d) = some xs := by
  induction xs with
  | nil => rfl
  | cons x xs ih =>
    show (allD (xs.map Tr.d)).map _ = _
    rw [ih]; rfl
@[simp] theorem mkTp_map (xs : List PyData) : mkTp (xs.map Tr.d) = .d (.tuple xs) := by unfold mkTp; simp
@[simp] theorem mkTp_mapf {α : Type} (f : α → PyData) (xs : List α) : mkTp (xs.map fun a => Tr.d (f a)) = .d (.tuple (xs.map f)) := by
  rw [show (xs.map fun a => Tr.d (f a)) = (xs.map f).map Tr.d by rw [List.map_map]; rfl, mkTp_map]
@[simp] theorem mkTp_nil : mkTp [] = .d (.tuple []) := rfl
@[simp] theorem mkTp_d2 (x y : PyData) : mkTp [.d x, .d y] = .d (.tuple [x, y]) := rfl
@[simp] theorem mkTp_d1 (x : PyData) : mkTp [.d x] = .d (.tuple [x]) := rfl
@[simp] theorem mkTp_d3 (x y z : PyData) : mkTp [.d x, .d y, .d z] = .d (.tuple [x, y, z]) := rfl
@[simp] theorem lend_d (x : PyData) : lend (.d x) = .ok (.d x) := rfl
@[simp] theorem lend_e (x : PyData) : lend (.e x) = .ok (.e x) := rfl
@[simp] theorem lend_v (x : PyData) : lend (.v x) = .ok (.v x) := rfl
@[simp] theorem lend_s (x : List Int) : lend (.s x) = .ok (.s x) := rfl
@[simp] theorem lend_ol (ts : List Tr) : lend (.ol ts) = Rs.of ((datas ts).map fun ds => .v (.list ds)) := rfl
@[simp] theorem lend_tp (ts : List Tr) : lend (.tp ts) = Rs.of ((datas ts).map fun ds => mkV (.tuple ds)) := rfl
@[simp] theorem kids_dl (ds : List PyData) : kids (.d (.list ds)) = some (true, ds.map .d) := rfl
@[simp] theorem kids_dt (ds : List PyData) : kids (.d (.tuple ds)) = some (false, ds.map .d) := rfl
@[simp] theorem kids_el (ds : List PyData) : kids (.e (.list ds)) = some (true, ds.map mkE) := rfl
@[simp] theorem kids_et (ds : List PyData) : kids (.e (.tuple ds)) = some (false, ds.map mkE) := rfl
@[simp] theorem kids_vl (ds : List PyData) : kids (.v (.list ds)) = some (true, ds.map mkV) := rfl
@[simp] theorem kids_vt (ds : List PyData) : kids (.v (.tuple ds)) = some (false, ds.map mkV) := rfl
@[simp] theorem kids_ol (ts : List Tr) : kids (.ol ts) = some (true, ts) := rfl
@[simp] theorem kids_tp (ts : List Tr) : kids (.tp ts) = some (false, ts) := rfl
@[simp] theorem kidsS_s (ns : List Int) : kidsS (.s ns) = some (true, ns.map fun i => .d (.int i)) := rfl
@[simp] theorem kidsS_d (x : PyData) : kidsS (.d x) = kids (.d x) := rfl
@[simp] theorem kidsS_e (x : PyData) : kidsS (.e x) = kids (.e x) := rfl
@[simp] theorem kidsS_v (x : PyData) : kidsS (.v x) = kids (.v x) := rfl
@[simp] theorem kidsS_ol (x : List Tr) : kidsS (.ol x) = some (true, x) := rfl
@[simp] theorem kidsS_tp (x : List Tr) : kidsS (.tp x) = some (false, x) := rfl
@[simp] theorem argT_d (x : PyData) : argT (.d x) = some (mkE x) := rfl
@[simp] theorem argT_e (x : PyData) : argT (.e x) = some (mkE x) := rfl
@[simp] theorem argT_v (x : PyData) : argT (.v x) = some (mkE x) := rfl
@[simp] theorem argT_ol (x : List Tr) : argT (.ol x) = (data (.ol x)).map mkE := rfl
@[simp] theorem argT_tp (x : List Tr) : argT (.tp x) = (data (.tp x)).map mkE := rfl
@[simp] theorem argT_s (x : List Int) : argT (.s x) = some (.s x) := rfl
@[simp] theorem argsT_nil : argsT [] = some [] := rfl
@[simp] theorem argsT_cons (t : Tr) (ts : List Tr) : argsT (t :: ts) = (argT t).bind fun a => (argsT ts).map fun as => a :: as := rfl

@[simp] theorem cleans_app : ∀ (a b : List Tr), cleans (a ++ b) = (cleans a && cleans b)
  | [], b => by simp
  | t :: a, b => by rw [List.cons_append, cleans_cons, cleans_cons, cleans_app a b, Bool.and_assoc]
@[simp] theorem noVs_app2 : ∀ (a b : List Tr), noVs (a ++ b) = (noVs a && noVs b)
  | [], b => by simp
  | t :: a, b => by rw [List.cons_append, noVs_cons, noVs_cons, noVs_app2 a b, Bool.and_assoc]
@[simp] theorem datas_rep (n : Nat) (x : PyData) : datas (List.replicate n (.d x)) = some (List.replicate n x) := by
  have := datas_mapf (fun _ : Nat => x) (List.replicate n 0)
  simpa using this
@[simp] theorem cleans_rep (n : Nat) (x : PyData) : cleans (List.replicate n (.d x)) = true := by
  have := cleans_mapf (fun _ : Nat => x) (List.replicate n 0)
  simpa using this
@[simp] theorem noVs_rep (n : Nat) (x : PyData) : noVs (List.replicate n (.d x)) = true := by
  have := noVs_mapf (fun _ : Nat => x) (List.replicate n 0)
  simpa using this
theorem frz_olg (ts : List Tr) : frz (.ol ts) = if cleans ts then (match datas ts with | some ds => .d (.list ds) | none => .ol ts) else .ol ts := by
  unfold frz
  show (if cleans ts = true then _ else _) = _
  by_cases h : cleans ts = true
  · rw [if_pos h, if_pos h]
    show (match (datas ts).map PyData.list with | some x => Tr.d x | none => _) = _
    cases datas ts <;> rfl
  · rw [if_neg h, if_neg h]
@[simp] theorem atI_lst {α : Type} (xs : List α) (v : α) : atI (xs ++ [v]) (-1) = some v := atI_last xs v
@[simp] theorem isi_ii (i : Int) : gIsi "int" [.d (.int i)] = some (.d (.bool true)) := by
  have : kitB "int" "int" = some true := by decide +kernel
  simp [gIsi, tyOf, this]
@[simp] theorem isi_ib (i : Int) : gIsi "bool" [.d (.int i)] = some (.d (.bool false)) := by
  have : kitB "int" "bool" = some false := by decide +kernel
  simp [gIsi, tyOf, this]
@[simp] theorem isi_it (i : Int) : gIsi "tuple" [.d (.int i)] = some (.d (.bool false)) := by
  have : kitB "int" "tuple" = some false := by decide +kernel
  simp [gIsi, tyOf, this]
@[simp] theorem isi_il (i : Int) : gIsi "list" [.d (.int i)] = some (.d (.bool false)) := by
  have : kitB "int" "list" = some false := by decide +kernel
  simp [gIsi, tyOf, this]
@[simp] theorem isi_nl : gIsi "list" [.d .none] = some (.d (.bool false)) := by
  have : kitB "NoneType" "list" = some false := by decide +kernel
  simp [gIsi, tyOf, this]
@[simp] theorem isi_nt : gIsi "tuple" [.d .none] = some (.d (.bool false)) := by
  have : kitB "NoneType" "tuple" = some false := by decide +kernel
  simp [gIsi, tyOf, this]
@[simp] theorem isi_ni : gIsi "int" [.d .none] = some (.d (.bool false)) := by
  have : kitB "NoneType" "int" = some false := by decide +kernel
  simp [gIsi, tyOf, this]
theorem isi_kl {t : Tr} {ks : List Tr} (T : String) (h : kids t = some (true, ks)) : gIsi T [t] = (kitB "list" T).map fun b => .d (.bool b) := by
  have : tyOf t = some "list" := by
    cases t with
    | d x => cases x <;> first | (cases h; done) | simp [tyOf]
    | e x => cases x <;> first | (cases h; done) | simp [tyOf]
    | v x => cases x <;> first | (cases h; done) | simp [tyOf]
    | s x => cases h
    | dt x => cases h
    | ol x => simp [tyOf]
    | tp x => cases h
  simp [gIsi, this]
theorem isi_kt {t : Tr} {ks : List Tr} (T : String) (h : kids t = some (false, ks)) : gIsi T [t] = (kitB "tuple" T).map fun b => .d (.bool b) := by
  have : tyOf t = some "tuple" := by
    cases t with
    | d x => cases x <;> first | (cases h; done) | simp [tyOf]
    | e x => cases x <;> first | (cases h; done) | simp [tyOf]
    | v x => cases x <;> first | (cases h; done) | simp [tyOf]
    | s x => cases h
    | dt x => cases h
    | ol x => cases h
    | tp x => simp [tyOf]
  simp [gIsi, this]
@[simp] theorem kit_ll : kitB "list" "list" = some true := by decide +kernel
@[simp] theorem kit_lt : kitB "list" "tuple" = some false := by decide +kernel
@[simp] theorem kit_tl : kitB "tuple" "list" = some false := by decide +kernel
@[simp] theorem kit_tt : kitB "tuple" "tuple" = some true := by decide +kernel
@[simp] theorem kit_li : kitB "list" "int" = some false := by decide +kernel
@[simp] theorem kit_ti : kitB "tuple" "int" = some false := by decide +kernel
@[simp] theorem isi_dl (T : String) (xs : List PyData) : gIsi T [.d (.list xs)] = (kitB "list" T).map fun b => .d (.bool b) := isi_kl T rfl
@[simp] theorem isi_dt (T : String) (xs : List PyData) : gIsi T [.d (.tuple xs)] = (kitB "tuple" T).map fun b => .d (.bool b) := isi_kt T rfl
@[simp] theorem isi_el (T : String) (xs : List PyData) : gIsi T [.e (.list xs)] = (kitB "list" T).map fun b => .d (.bool b) := isi_kl T rfl
@[simp] theorem isi_et (T : String) (xs : List PyData) : gIsi T [.e (.tuple xs)] = (kitB "tuple" T).map fun b => .d (.bool b) := isi_kt T rfl
@[simp] theorem isi_vl (T : String) (xs : List PyData) : gIsi T [.v (.list xs)] = (kitB "list" T).map fun b => .d (.bool b) := isi_kl T rfl
@[simp] theorem isi_vt (T : String) (xs : List PyData) : gIsi T [.v (.tuple xs)] = (kitB "tuple" T).map fun b => .d (.bool b) := isi_kt T rfl
@[simp] theorem isi_ol (T : String) (xs : List Tr) : gIsi T [.ol xs] = (kitB "list" T).map fun b => .d (.bool b) := isi_kl T rfl
@[simp] theorem isi_tp (T : String) (xs : List Tr) : gIsi T [.tp xs] = (kitB "tuple" T).map fun b => .d (.bool b) := isi_kt T rfl

/-! ### expressions -/
section
variable {fa fb fc : En → Rs Tr} {fr : En → Rs (List Tr)} {g : List Tr → Option Tr} {en : En} {f h : DenS}
@[simp] theorem e_C (x : PyData) : dC x en = .ok (.d x) := Eq.trans rfl rfl
@[simp] theorem e_nil : dNil en = .ok [] := Eq.trans rfl rfl
@[simp] theorem e_cons : dCons fa fr en = (fa en).bind fun t => (fr en).bind fun ts => .ok (t :: ts) := Eq.trans rfl rfl
@[simp] theorem e_pr : dPr g fr en = (fr en).bind fun ts => Rs.of (g ts) := Eq.trans rfl rfl
@[simp] theorem e_bin : dBin g fa fb en = (fa en).bind fun t => (fb en).bind fun u => Rs.of (g [t, u]) := by
  unfold dBin dPr dCons dNil
  cases fa en <;> cases fb en <;> rfl
@[simp] theorem e_un : dUn g fa en = (fa en).bind fun t => Rs.of (g [t]) := by
  unfold dUn dPr dCons dNil
  cases fa en <;> rfl
theorem e_varS {i : Nat} {t : Option Tr} {r : En} : dVar (i + 1) (t :: r) = dVar i r := rfl
@[simp] theorem e_call {den : Den} : dCall den fr en = (fr en).bind fun ts => (Rs.of (argsT ts)).bind den := Eq.trans rfl rfl
@[simp] theorem asB_d (b : Bool) : asB (.d (.bool b)) = .ok b := rfl
@[simp] theorem asI_d (i : Int) : asI (.d (.int i)) = .ok i := rfl
@[simp] theorem e_dB : dB fa en = (fa en).bind asB := Eq.trans rfl rfl
@[simp] theorem e_dI : dI fa en = (fa en).bind asI := Eq.trans rfl rfl
variable {p q : En → Rs Bool}
@[simp] theorem e_andT : dAndT p q en = (p en).bind fun b => if b then q en else .ok false := Eq.trans rfl rfl
@[simp] theorem e_orT : dOrT p q en = (p en).bind fun b => if b then .ok true else q en := Eq.trans rfl rfl
@[simp] theorem e_notT : dNotT p en = (p en).bind fun b => .ok (!b) := Eq.trans rfl rfl
@[simp] theorem e_and : dAnd fa fb en = ((fa en).bind asB).bind fun b => if b then fb en else .ok (.d (.bool false)) := Eq.trans rfl rfl
@[simp] theorem e_or : dOr fa fb en = ((fa en).bind asB).bind fun b => if b then .ok (.d (.bool true)) else fb en := Eq.trans rfl rfl
@[simp] theorem e_not : dNot fa en = ((fa en).bind asB).bind fun b => .ok (.d (.bool (!b))) := Eq.trans rfl rfl
@[simp] theorem e_chain {p q : Int → Int → Bool} : dChain p q fa fb fc en = ((fa en).bind asI).bind fun i => ((fb en).bind asI).bind fun j => if p i j then ((fc en).bind asI).bind fun k => .ok (.d (.bool (q j k))) else .ok (.d (.bool false)) := Eq.trans rfl rfl
@[simp] theorem e_partN : dPart none en = .ok none := Eq.trans rfl rfl
@[simp] theorem e_part : dPart (some fa) en = (dI fa en).bind fun i => .ok (some i) := by
  unfold dPart
  first | rfl | (cases dI fa en <;> rfl)
@[simp] theorem e_sl {lo hi : Option (En → Rs Tr)} : dSl fa lo hi en = (fa en).bind fun t => (dPart lo en).bind fun i => (dPart hi en).bind fun j => Rs.of (gCut t i j) := Eq.trans rfl rfl
@[simp] theorem e_src {m : Bool} : dSrc m fa en = (fa en).bind fun t => Rs.of (srcItems m t) := Eq.trans rfl rfl
@[simp] theorem e_rng1 : dRng1 fa en = ((fa en).bind asI).bind fun n => if rgOk n then .ok ((List.range n.toNat).map fun (i : Nat) => .d (.int (0 + (i : Int)))) else .no := Eq.trans rfl rfl
@[simp] theorem e_rng2 : dRng2 fa fb en = ((fa en).bind asI).bind fun lo => ((fb en).bind asI).bind fun hi => if rgOk lo && rgOk hi then .ok ((List.range (hi - lo).toNat).map fun (i : Nat) => .d (.int (lo + (i : Int)))) else .no := Eq.trans rfl rfl
@[simp] theorem gD_def (g : List PyData → Option PyData) (ts : List Tr) : gD g ts = (datas ts).bind fun xs => (g xs).map Tr.d := rfl
@[simp] theorem gI_def (C : Int → Int → Bool) (f : Int → Int → PyData) (i j : Int) : gI C f [.int i, .int j] = if C i j then some (f i j) else none := rfl
@[simp] theorem gAdd_i (i j : Int) : gAdd [.d (.int i), .d (.int j)] = some (.d (.int (i + j))) := rfl
@[simp] theorem gSub_i (i j : Int) : gSub [.d (.int i), .d (.int j)] = some (.d (.int (i - j))) := rfl
@[simp] theorem gMul_l (i j : Int) (h : i.natAbs < 18446744073709551616) : gMul [.d (.int i), .d (.int j)] = some (.d (.int (i * j))) := by
  have h' := within_iff.mpr h
  simp only [gMul, gD_def, datas_cons, data_d, datas_nil, Option.bind_some, Option.map_some, gI_def]
  rw [h', Bool.true_or, if_pos rfl]
  rfl
@[simp] theorem gMul_r (i j : Int) (h : j.natAbs < 18446744073709551616) : gMul [.d (.int i), .d (.int j)] = some (.d (.int (i * j))) := by
  have h' := within_iff.mpr h
  simp only [gMul, gD_def, datas_cons, data_d, datas_nil, Option.bind_some, Option.map_some, gI_def]
  rw [h', Bool.or_true, if_pos rfl]
  rfl
@[simp] theorem gMod_i (i j : Int) (h : 0 < j) : gMod [.d (.int i), .d (.int j)] = some (.d (.int (i % j))) := by
  simp [gMod, h]
@[simp] theorem gDiv_i (i j : Int) (h : 0 < j ∧ j < 1073741824) : gDiv [.d (.int i), .d (.int j)] = some (.d (.int (i / j))) := by
  have h' : within 1073741824 j = true := within_iff.mpr (by omega)
  simp only [gDiv, gD_def, datas_cons, data_d, datas_nil, Option.bind_some, Option.map_some, gI_def]
  rw [h', decide_eq_true h.1, Bool.true_and, if_pos rfl]
  rfl
@[simp] theorem gNeg_i (i : Int) : gNeg [.d (.int i)] = some (.d (.int (-i))) := rfl
@[simp] theorem gB_i (f : Int → Int → Bool) (i j : Int) : gB f [.d (.int i), .d (.int j)] = some (.d (.bool (f i j))) := by simp [gB]
@[simp] theorem gEq_i (i j : Int) : gEq [.d (.int i), .d (.int j)] = some (.d (.bool (decide (i = j)))) := by
  simp only [gEq, gEqD, shk, PyData.eqv, gD_def, datas_cons, data_d, datas_nil, Option.bind_some, Option.map_some, Bool.and_true, if_true, Bool.true_and, Bool.false_eq_true, if_false]
  rw [show (i == j) = decide (i = j) by rw [Bool.eq_iff_iff]; simp]
@[simp] theorem gNe_i (i j : Int) : gNe [.d (.int i), .d (.int j)] = some (.d (.bool (!decide (i = j)))) := by
  simp only [gNe, gEqD, shk, PyData.eqv, gD_def, datas_cons, data_d, datas_nil, Option.bind_some, Option.map_some, Bool.and_true, if_true, Bool.true_and, Bool.false_eq_true, if_false]
  rw [show (i == j) = decide (i = j) by rw [Bool.eq_iff_iff]; simp]
theorem gEq_data {t u : Tr} {x y : PyData} (ht : data t = some x) (hu : data u = some y) (s1 : shk 40 x = true) (s2 : shk 40 y = true) (p1 : pln x = true) (p2 : pln y = true) {b : Bool} (hb : b = true ↔ x = y) : gEq [t, u] = some (.d (.bool b)) := by
  have e : PyData.eqv x y = b := by
    rw [Bool.eq_iff_iff, eqv_iff x y p1 p2, hb]
  simp [gEq, gEqD, ht, hu, s1, s2, e]
theorem gNe_data {t u : Tr} {x y : PyData} (ht : data t = some x) (hu : data u = some y) (s1 : shk 40 x = true) (s2 : shk 40 y = true) (p1 : pln x = true) (p2 : pln y = true) {b : Bool} (hb : b = true ↔ x = y) : gNe [t, u] = some (.d (.bool (!b))) := by
  have e : PyData.eqv x y = b := by
    rw [Bool.eq_iff_iff, eqv_iff x y p1 p2, hb]
  simp [gNe, gEqD, ht, hu, s1, s2, e]
theorem gLen_k {t : Tr} {b : Bool} {ks : List Tr} (h : kidsS t = some (b, ks)) (hs : ∀ z, t ≠ .d (.str z) := by intro z h; cases h) : gLen [t] = some (.d (.int (ks.length : Nat))) := by
  unfold gLen
  split
  · rename_i z e
    cases e
    exact absurd rfl (hs z)
  · rename_i t' _ e
    cases e
    rw [h]; rfl
  · rename_i e1 e2
    exact absurd rfl (e2 t)
theorem gIdx_k {t : Tr} {i : Int} {b : Bool} {ks : List Tr} (h : kidsS t = some (b, ks)) (hs : ∀ z, t ≠ .d (.str z) := by intro z h; cases h) : gIdx [t, .d (.int i)] = atI ks i := by
  unfold gIdx
  split
  · rename_i z _ e
    cases e
    exact absurd rfl (hs z)
  · rename_i t' u _ e
    cases e
    rw [h]; rfl
  · rename_i e1 e2
    exact absurd rfl (e2 t _)
theorem atI_nn {α : Type} (xs : List α) (i : Int) (h : 0 ≤ i) : atI xs i = xs[i.toNat]? := by
  unfold atI ixN
  rw [if_pos h]
  by_cases h2 : i < xs.length
  · rw [if_pos h2]; rfl
  · rw [if_neg h2]
    rw [List.getElem?_eq_none (by omega)]; rfl
@[simp] theorem atI_c0 {α : Type} (x0 : α) (xs : List α) : atI (x0 :: xs) 0 = some x0 := by rw [atI_nn _ _ (by omega)]; rfl
@[simp] theorem atI_c1 {α : Type} (x0 x1 : α) (xs : List α) : atI (x0 :: x1 :: xs) 1 = some x1 := by rw [atI_nn _ _ (by omega)]; rfl
@[simp] theorem atI_c2 {α : Type} (x0 x1 x2 : α) (xs : List α) : atI (x0 :: x1 :: x2 :: xs) 2 = some x2 := by rw [atI_nn _ _ (by omega)]; rfl
@[simp] theorem atI_c3 {α : Type} (x0 x1 x2 x3 : α) (xs : List α) : atI (x0 :: x1 :: x2 :: x3 :: xs) 3 = some x3 := by rw [atI_nn _ _ (by omega)]; rfl
@[simp] theorem atI_c4 {α : Type} (x0 x1 x2 x3 x4 : α) (xs : List α) : atI (x0 :: x1 :: x2 :: x3 :: x4 :: xs) 4 = some x4 := by rw [atI_nn _ _ (by omega)]; rfl
@[simp] theorem atI_c5 {α : Type} (x0 x1 x2 x3 x4 x5 : α) (xs : List α) : atI (x0 :: x1 :: x2 :: x3 :: x4 :: x5 :: xs) 5 = some x5 := by rw [atI_nn _ _ (by omega)]; rfl
@[simp] theorem atI_c6 {α : Type} (x0 x1 x2 x3 x4 x5 x6 : α) (xs : List α) : atI (x0 :: x1 :: x2 :: x3 :: x4 :: x5 :: x6 :: xs) 6 = some x6 := by rw [atI_nn _ _ (by omega)]; rfl
@[simp] theorem gLen_s (ns : List Int) : gLen [.s ns] = some (.d (.int (ns.length : Nat))) := by rw [gLen_k (by rfl)]; simp
@[simp] theorem gLen_dl (xs : List PyData) : gLen [.d (.list xs)] = some (.d (.int (xs.length : Nat))) := by rw [gLen_k (by rfl)]; simp
@[simp] theorem gLen_dt (xs : List PyData) : gLen [.d (.tuple xs)] = some (.d (.int (xs.length : Nat))) := by rw [gLen_k (by rfl)]; simp
@[simp] theorem gLen_el (xs : List PyData) : gLen [.e (.list xs)] = some (.d (.int (xs.length : Nat))) := by rw [gLen_k (by rfl)]; simp
@[simp] theorem gLen_et (xs : List PyData) : gLen [.e (.tuple xs)] = some (.d (.int (xs.length : Nat))) := by rw [gLen_k (by rfl)]; simp
@[simp] theorem gLen_vl (xs : List PyData) : gLen [.v (.list xs)] = some (.d (.int (xs.length : Nat))) := by rw [gLen_k (by rfl)]; simp
@[simp] theorem gLen_vt (xs : List PyData) : gLen [.v (.tuple xs)] = some (.d (.int (xs.length : Nat))) := by rw [gLen_k (by rfl)]; simp
@[simp] theorem gLen_ol (xs : List Tr) : gLen [.ol xs] = some (.d (.int (xs.length : Nat))) := by rw [gLen_k (by rfl)]
@[simp] theorem gLen_tp (xs : List Tr) : gLen [.tp xs] = some (.d (.int (xs.length : Nat))) := by rw [gLen_k (by rfl)]
@[simp] theorem gIdx_s (ns : List Int) (i : Int) : gIdx [.s ns, .d (.int i)] = atI (ns.map fun i => Tr.d (.int i)) i := gIdx_k (by rfl)
@[simp] theorem gIdx_dl (xs : List PyData) (i : Int) : gIdx [.d (.list xs), .d (.int i)] = atI (xs.map Tr.d) i := gIdx_k (by rfl)
@[simp] theorem gIdx_dt (xs : List PyData) (i : Int) : gIdx [.d (.tuple xs), .d (.int i)] = atI (xs.map Tr.d) i := gIdx_k (by rfl)
@[simp] theorem gIdx_el (xs : List PyData) (i : Int) : gIdx [.e (.list xs), .d (.int i)] = atI (xs.map mkE) i := gIdx_k (by rfl)
@[simp] theorem gIdx_et (xs : List PyData) (i : Int) : gIdx [.e (.tuple xs), .d (.int i)] = atI (xs.map mkE) i := gIdx_k (by rfl)
@[simp] theorem gIdx_vl (xs : List PyData) (i : Int) : gIdx [.v (.list xs), .d (.int i)] = atI (xs.map mkV) i := gIdx_k (by rfl)
@[simp] theorem gIdx_vt (xs : List PyData) (i : Int) : gIdx [.v (.tuple xs), .d (.int i)] = atI (xs.map mkV) i := gIdx_k (by rfl)
@[simp] theorem gIdx_ol (xs : List Tr) (i : Int) : gIdx [.ol xs, .d (.int i)] = atI xs i := gIdx_k (by rfl)
@[simp] theorem gIdx_tp (xs : List Tr) (i : Int) : gIdx [.tp xs, .d (.int i)] = atI xs i := gIdx_k (by rfl)
@[simp] theorem atI_map {α β : Type} (f : α → β) (xs : List α) (i : Int) : atI (xs.map f) i = (atI xs i).map f := by
  unfold atI
  rw [List.length_map]
  cases ixN xs.length i with
  | none => rfl
  | some j => simp
/-! ### statements -/
@[simp] theorem e_next : dNext en = .nx en := Eq.trans rfl rfl
@[simp] theorem e_seq : dSeq f h en = andThen (f en) h := Eq.trans rfl rfl
@[simp] theorem then_nx : andThen (.nx en) h = h en := Eq.trans rfl rfl
@[simp] theorem then_rt (t : Tr) : andThen (.rt t en) h = .rt t en := Eq.trans rfl rfl
@[simp] theorem then_er (c : Str) : andThen (.er c en) h = .er c en := Eq.trans rfl rfl
@[simp] theorem then_no : andThen .no h = .no := Eq.trans rfl rfl
@[simp] theorem then_bk : andThen (.bk en) h = .bk en := Eq.trans rfl rfl
@[simp] theorem then_ct : andThen (.ct en) h = .ct en := Eq.trans rfl rfl
@[simp] theorem e_if : dIf p f h en = onR (p en) en fun b => if b then f en else h en := Eq.trans rfl rfl
@[simp] theorem e_drop : dDrop fa en = onR (fa en) en fun _ => .nx en := Eq.trans rfl rfl
@[simp] theorem e_set (b : Bool) (i : Nat) : dSet b i fa en = onR (fa en) en fun t => if noV t && decide (i < en.length) then .nx (en.set i (some (frzIf b t))) else .no := Eq.trans rfl rfl
@[simp] theorem e_setX (b : Bool) (i : Nat) (g : DenX) : dSetX b i g en = onR (g en) en fun a => if noV a.1 && decide (i < a.2.length) then .nx (a.2.set i (some (frzIf b a.1))) else .no := Eq.trans rfl rfl
@[simp] theorem e_ret (g : DenX) : dRet g en = onR (g en) en fun a => .rt a.1 a.2 := Eq.trans rfl rfl
@[simp] theorem e_lift : dLift fa en = (fa en).bind fun t => .ok (t, en) := Eq.trans rfl rfl
@[simp] theorem e_raise (c : Str) : dRaise c en = .er c en := Eq.trans rfl rfl
@[simp] theorem e_for (src : En → Rs (List Tr)) (T : Tg) (b : DenS) : dFor src T b en = onR (src en) en fun its => forL T b its en := Eq.trans rfl rfl
@[simp] theorem e_comp (src : En → Rs (List Tr)) (T : Tg) (vs : List Nat) (test : Option (En → Rs Bool)) (elt : En → Rs Tr) : dComp src T vs test elt en = (src en).bind fun its => (Rs.nx (compL T test elt (wipeE en vs) its)).bind fun ts => if its.length ≤ 100000 then .ok (.ol ts) else .no := Eq.trans rfl rfl
@[simp] theorem nx_ok {α : Type} (a : α) : Rs.nx (.ok a) = .ok a := rfl
@[simp] theorem e_tgN (j : Nat) (t : Tr) : tgN j t en = if j < en.length then some (en.set j (some t)) else none := Eq.trans rfl rfl
@[simp] theorem wipe_nil : wipeE en [] = en := rfl
@[simp] theorem wipe_cons (v : Nat) (vs : List Nat) : wipeE en (v :: vs) = (wipeE en vs).set v none := rfl
@[simp] theorem optB_none : optB none en = .ok true := rfl
@[simp] theorem optB_some (f : En → Rs Bool) : optB (some f) en = f en := rfl
@[simp] theorem fin_rt {t : Tr} : finD (.rt t en) = if clean t then .ok t else .no := Eq.trans rfl rfl
@[simp] theorem fin_no : finD .no = .no := rfl
@[simp] theorem fin_nx : finD (.nx en) = .ok (.d .none) := Eq.trans rfl rfl
@[simp] theorem fin_er {c : Str} : finD (.er c en) = .er c := Eq.trans rfl rfl
theorem e_def1 {n : Nat} {b : DenS} {t : Tr} : dDef 1 n b [t] = finD (b (some t :: List.replicate (n - 1) none)) := rfl
theorem e_def2 {n : Nat} {b : DenS} {t u : Tr} : dDef 2 n b [t, u] = finD (b (some t :: some u :: List.replicate (n - 2) none)) := rfl
theorem e_def3 {n : Nat} {b : DenS} {t u v : Tr} : dDef 3 n b [t, u, v] = finD (b (some t :: some u :: some v :: List.replicate (n - 3) none)) := rfl
theorem e_def4 {n : Nat} {b : DenS} {t u v w : Tr} : dDef 4 n b [t, u, v, w] = finD (b (some t :: some u :: some v :: some w :: List.replicate (n - 4) none)) := rfl
@[simp] theorem ixN_last (n : Nat) : ixN (n + 1) (-1) = some n := by
  unfold ixN
  rw [if_neg (by decide), if_pos (by omega)]
  rw [show ((-1 : Int) + ((n + 1 : Nat) : Int)).toNat = n by omega]
theorem ixN_nat {n i : Nat} (h : i < n) : ixN n (i : Int) = some i := by
  unfold ixN
  rw [if_pos (by omega), if_pos (by omega)]
  rfl
theorem atI_nat {α : Type} (xs : List α) (i : Nat) : atI xs (i : Int) = xs[i]? := by
  rw [atI_nn _ _ (by omega)]; rfl
theorem e_def {p n : Nat} {b : DenS} {ts : List Tr} (h : ts.length = p) : dDef p n b ts = finD (b (ts.map some ++ List.replicate (n - p) none)) := if_pos h
@[simp] theorem e_var0 {t : Tr} {r : En} : dVar 0 (some t :: r) = lend t := Eq.trans rfl rfl
@[simp] theorem e_var1 {a0 : Option Tr} {t : Tr} {r : En} : dVar 1 (a0 :: some t :: r) = lend t := Eq.trans rfl rfl
@[simp] theorem e_var2 {a0 a1 : Option Tr} {t : Tr} {r : En} : dVar 2 (a0 :: a1 :: some t :: r) = lend t := Eq.trans rfl rfl
@[simp] theorem e_var3 {a0 a1 a2 : Option Tr} {t : Tr} {r : En} : dVar 3 (a0 :: a1 :: a2 :: some t :: r) = lend t := Eq.trans rfl rfl
@[simp] theorem e_var4 {a0 a1 a2 a3 : Option Tr} {t : Tr} {r : En} : dVar 4 (a0 :: a1 :: a2 :: a3 :: some t :: r) = lend t := Eq.trans rfl rfl
@[simp] theorem e_var5 {a0 a1 a2 a3 a4 : Option Tr} {t : Tr} {r : En} : dVar 5 (a0 :: a1 :: a2 :: a3 :: a4 :: some t :: r) = lend t := Eq.trans rfl rfl
@[simp] theorem e_var6 {a0 a1 a2 a3 a4 a5 : Option Tr} {t : Tr} {r : En} : dVar 6 (a0 :: a1 :: a2 :: a3 :: a4 :: a5 :: some t :: r) = lend t := Eq.trans rfl rfl
@[simp] theorem e_var7 {a0 a1 a2 a3 a4 a5 a6 : Option Tr} {t : Tr} {r : En} : dVar 7 (a0 :: a1 :: a2 :: a3 :: a4 :: a5 :: a6 :: some t :: r) = lend t := Eq.trans rfl rfl
@[simp] theorem e_var8 {a0 a1 a2 a3 a4 a5 a6 a7 : Option Tr} {t : Tr} {r : En} : dVar 8 (a0 :: a1 :: a2 :: a3 :: a4 :: a5 :: a6 :: a7 :: some t :: r) = lend t := Eq.trans rfl rfl
@[simp] theorem e_var9 {a0 a1 a2 a3 a4 a5 a6 a7 a8 : Option Tr} {t : Tr} {r : En} : dVar 9 (a0 :: a1 :: a2 :: a3 :: a4 :: a5 :: a6 :: a7 :: a8 :: some t :: r) = lend t := Eq.trans rfl rfl
@[simp] theorem e_var10 {a0 a1 a2 a3 a4 a5 a6 a7 a8 a9 : Option Tr} {t : Tr} {r : En} : dVar 10 (a0 :: a1 :: a2 :: a3 :: a4 :: a5 :: a6 :: a7 :: a8 :: a9 :: some t :: r) = lend t := Eq.trans rfl rfl
@[simp] theorem e_var11 {a0 a1 a2 a3 a4 a5 a6 a7 a8 a9 a10 : Option Tr} {t : Tr} {r : En} : dVar 11 (a0 :: a1 :: a2 :: a3 :: a4 :: a5 :: a6 :: a7 :: a8 :: a9 :: a10 :: some t :: r) = lend t := Eq.trans rfl rfl
@[simp] theorem e_var12 {a0 a1 a2 a3 a4 a5 a6 a7 a8 a9 a10 a11 : Option Tr} {t : Tr} {r : En} : dVar 12 (a0 :: a1 :: a2 :: a3 :: a4 :: a5 :: a6 :: a7 :: a8 :: a9 :: a10 :: a11 :: some t :: r) = lend t := Eq.trans rfl rfl
@[simp] theorem e_var13 {a0 a1 a2 a3 a4 a5 a6 a7 a8 a9 a10 a11 a12 : Option Tr} {t : Tr} {r : En} : dVar 13 (a0 :: a1 :: a2 :: a3 :: a4 :: a5 :: a6 :: a7 :: a8 :: a9 :: a10 :: a11 :: a12 :: some t :: r) = lend t := Eq.trans rfl rfl
@[simp] theorem e_var14 {a0 a1 a2 a3 a4 a5 a6 a7 a8 a9 a10 a11 a12 a13 : Option Tr} {t : Tr} {r : En} : dVar 14 (a0 :: a1 :: a2 :: a3 :: a4 :: a5 :: a6 :: a7 :: a8 :: a9 :: a10 :: a11 :: a12 :: a13 :: some t :: r) = lend t := Eq.trans rfl rfl
@[simp] theorem e_var15 {a0 a1 a2 a3 a4 a5 a6 a7 a8 a9 a10 a11 a12 a13 a14 : Option Tr} {t : Tr} {r : En} : dVar 15 (a0 :: a1 :: a2 :: a3 :: a4 :: a5 :: a6 :: a7 :: a8 :: a9 :: a10 :: a11 :: a12 :: a13 :: a14 :: some t :: r) = lend t := Eq.trans rfl rfl
@[simp] theorem e_var16 {a0 a1 a2 a3 a4 a5 a6 a7 a8 a9 a10 a11 a12 a13 a14 a15 : Option Tr} {t : Tr} {r : En} : dVar 16 (a0 :: a1 :: a2 :: a3 :: a4 :: a5 :: a6 :: a7 :: a8 :: a9 :: a10 :: a11 :: a12 :: a13 :: a14 :: a15 :: some t :: r) = lend t := Eq.trans rfl rfl
@[simp] theorem e_var17 {a0 a1 a2 a3 a4 a5 a6 a7 a8 a9 a10 a11 a12 a13 a14 a15 a16 : Option Tr} {t : Tr} {r : En} : dVar 17 (a0 :: a1 :: a2 :: a3 :: a4 :: a5 :: a6 :: a7 :: a8 :: a9 :: a10 :: a11 :: a12 :: a13 :: a14 :: a15 :: a16 :: some t :: r) = lend t := Eq.trans rfl rfl
@[simp] theorem e_var18 {a0 a1 a2 a3 a4 a5 a6 a7 a8 a9 a10 a11 a12 a13 a14 a15 a16 a17 : Option Tr} {t : Tr} {r : En} : dVar 18 (a0 :: a1 :: a2 :: a3 :: a4 :: a5 :: a6 :: a7 :: a8 :: a9 :: a10 :: a11 :: a12 :: a13 :: a14 :: a15 :: a16 :: a17 :: some t :: r) = lend t := Eq.trans rfl rfl
@[simp] theorem e_var19 {a0 a1 a2 a3 a4 a5 a6 a7 a8 a9 a10 a11 a12 a13 a14 a15 a16 a17 a18 : Option Tr} {t : Tr} {r : En} : dVar 19 (a0 :: a1 :: a2 :: a3 :: a4 :: a5 :: a6 :: a7 :: a8 :: a9 :: a10 :: a11 :: a12 :: a13 :: a14 :: a15 :: a16 :: a17 :: a18 :: some t :: r) = lend t := Eq.trans rfl rfl
@[simp] theorem e_var20 {a0 a1 a2 a3 a4 a5 a6 a7 a8 a9 a10 a11 a12 a13 a14 a15 a16 a17 a18 a19 : Option Tr} {t : Tr} {r : En} : dVar 20 (a0 :: a1 :: a2 :: a3 :: a4 :: a5 :: a6 :: a7 :: a8 :: a9 :: a10 :: a11 :: a12 :: a13 :: a14 :: a15 :: a16 :: a17 :: a18 :: a19 :: some t :: r) = lend t := Eq.trans rfl rfl
@[simp] theorem e_var21 {a0 a1 a2 a3 a4 a5 a6 a7 a8 a9 a10 a11 a12 a13 a14 a15 a16 a17 a18 a19 a20 : Option Tr} {t : Tr} {r : En} : dVar 21 (a0 :: a1 :: a2 :: a3 :: a4 :: a5 :: a6 :: a7 :: a8 :: a9 :: a10 :: a11 :: a12 :: a13 :: a14 :: a15 :: a16 :: a17 :: a18 :: a19 :: a20 :: some t :: r) = lend t := Eq.trans rfl rfl
@[simp] theorem e_var22 {a0 a1 a2 a3 a4 a5 a6 a7 a8 a9 a10 a11 a12 a13 a14 a15 a16 a17 a18 a19 a20 a21 : Option Tr} {t : Tr} {r : En} : dVar 22 (a0 :: a1 :: a2 :: a3 :: a4 :: a5 :: a6 :: a7 :: a8 :: a9 :: a10 :: a11 :: a12 :: a13 :: a14 :: a15 :: a16 :: a17 :: a18 :: a19 :: a20 :: a21 :: some t :: r) = lend t := Eq.trans rfl rfl
@[simp] theorem e_var23 {a0 a1 a2 a3 a4 a5 a6 a7 a8 a9 a10 a11 a12 a13 a14 a15 a16 a17 a18 a19 a20 a21 a22 : Option Tr} {t : Tr} {r : En} : dVar 23 (a0 :: a1 :: a2 :: a3 :: a4 :: a5 :: a6 :: a7 :: a8 :: a9 :: a10 :: a11 :: a12 :: a13 :: a14 :: a15 :: a16 :: a17 :: a18 :: a19 :: a20 :: a21 :: a22 :: some t :: r) = lend t := Eq.trans rfl rfl
@[simp] theorem e_var24 {a0 a1 a2 a3 a4 a5 a6 a7 a8 a9 a10 a11 a12 a13 a14 a15 a16 a17 a18 a19 a20 a21 a22 a23 : Option Tr} {t : Tr} {r : En} : dVar 24 (a0 :: a1 :: a2 :: a3 :: a4 :: a5 :: a6 :: a7 :: a8 :: a9 :: a10 :: a11 :: a12 :: a13 :: a14 :: a15 :: a16 :: a17 :: a18 :: a19 :: a20 :: a21 :: a22 :: a23 :: some t :: r) = lend t := Eq.trans rfl rfl
@[simp] theorem pN_0 {t : Tr} {r : En} : pN 0 (some t :: r) = .ok (0, []) := Eq.trans rfl rfl
@[simp] theorem e_move0 {ts : List Tr} {r : En} : dMove 0 (some (.ol ts) :: r) = .ok (.ol ts, none :: r) := Eq.trans rfl rfl
@[simp] theorem pN_1 {a0 : Option Tr} {t : Tr} {r : En} : pN 1 (a0 :: some t :: r) = .ok (1, []) := Eq.trans rfl rfl
@[simp] theorem e_move1 {a0 : Option Tr} {ts : List Tr} {r : En} : dMove 1 (a0 :: some (.ol ts) :: r) = .ok (.ol ts, a0 :: none :: r) := Eq.trans rfl rfl
@[simp] theorem pN_2 {a0 a1 : Option Tr} {t : Tr} {r : En} : pN 2 (a0 :: a1 :: some t :: r) = .ok (2, []) := Eq.trans rfl rfl
@[simp] theorem e_move2 {a0 a1 : Option Tr} {ts : List Tr} {r : En} : dMove 2 (a0 :: a1 :: some (.ol ts) :: r) = .ok (.ol ts, a0 :: a1 :: none :: r) := Eq.trans rfl rfl
@[simp] theorem pN_3 {a0 a1 a2 : Option Tr} {t : Tr} {r : En} : pN 3 (a0 :: a1 :: a2 :: some t :: r) = .ok (3, []) := Eq.trans rfl rfl
@[simp] theorem e_move3 {a0 a1 a2 : Option Tr} {ts : List Tr} {r : En} : dMove 3 (a0 :: a1 :: a2 :: some (.ol ts) :: r) = .ok (.ol ts, a0 :: a1 :: a2 :: none :: r) := Eq.trans rfl rfl
@[simp] theorem pN_4 {a0 a1 a2 a3 : Option Tr} {t : Tr} {r : En} : pN 4 (a0 :: a1 :: a2 :: a3 :: some t :: r) = .ok (4, []) := Eq.trans rfl rfl
@[simp] theorem e_move4 {a0 a1 a2 a3 : Option Tr} {ts : List Tr} {r : En} : dMove 4 (a0 :: a1 :: a2 :: a3 :: some (.ol ts) :: r) = .ok (.ol ts, a0 :: a1 :: a2 :: a3 :: none :: r) := Eq.trans rfl rfl
@[simp] theorem pN_5 {a0 a1 a2 a3 a4 : Option Tr} {t : Tr} {r : En} : pN 5 (a0 :: a1 :: a2 :: a3 :: a4 :: some t :: r) = .ok (5, []) := Eq.trans rfl rfl
@[simp] theorem e_move5 {a0 a1 a2 a3 a4 : Option Tr} {ts : List Tr} {r : En} : dMove 5 (a0 :: a1 :: a2 :: a3 :: a4 :: some (.ol ts) :: r) = .ok (.ol ts, a0 :: a1 :: a2 :: a3 :: a4 :: none :: r) := Eq.trans rfl rfl
@[simp] theorem pN_6 {a0 a1 a2 a3 a4 a5 : Option Tr} {t : Tr} {r : En} : pN 6 (a0 :: a1 :: a2 :: a3 :: a4 :: a5 :: some t :: r) = .ok (6, []) := Eq.trans rfl rfl
@[simp] theorem e_move6 {a0 a1 a2 a3 a4 a5 : Option Tr} {ts : List Tr} {r : En} : dMove 6 (a0 :: a1 :: a2 :: a3 :: a4 :: a5 :: some (.ol ts) :: r) = .ok (.ol ts, a0 :: a1 :: a2 :: a3 :: a4 :: a5 :: none :: r) := Eq.trans rfl rfl
@[simp] theorem pN_7 {a0 a1 a2 a3 a4 a5 a6 : Option Tr} {t : Tr} {r : En} : pN 7 (a0 :: a1 :: a2 :: a3 :: a4 :: a5 :: a6 :: some t :: r) = .ok (7, []) := Eq.trans rfl rfl
@[simp] theorem e_move7 {a0 a1 a2 a3 a4 a5 a6 : Option Tr} {ts : List Tr} {r : En} : dMove 7 (a0 :: a1 :: a2 :: a3 :: a4 :: a5 :: a6 :: some (.ol ts) :: r) = .ok (.ol ts, a0 :: a1 :: a2 :: a3 :: a4 :: a5 :: a6 :: none :: r) := Eq.trans rfl rfl
@[simp] theorem pN_8 {a0 a1 a2 a3 a4 a5 a6 a7 : Option Tr} {t : Tr} {r : En} : pN 8 (a0 :: a1 :: a2 :: a3 :: a4 :: a5 :: a6 :: a7 :: some t :: r) = .ok (8, []) := Eq.trans rfl rfl
@[simp] theorem e_move8 {a0 a1 a2 a3 a4 a5 a6 a7 : Option Tr} {ts : List Tr} {r : En} : dMove 8 (a0 :: a1 :: a2 :: a3 :: a4 :: a5 :: a6 :: a7 :: some (.ol ts) :: r) = .ok (.ol ts, a0 :: a1 :: a2 :: a3 :: a4 :: a5 :: a6 :: a7 :: none :: r) := Eq.trans rfl rfl
@[simp] theorem pN_9 {a0 a1 a2 a3 a4 a5 a6 a7 a8 : Option Tr} {t : Tr} {r : En} : pN 9 (a0 :: a1 :: a2 :: a3 :: a4 :: a5 :: a6 :: a7 :: a8 :: some t :: r) = .ok (9, []) := Eq.trans rfl rfl
@[simp] theorem e_move9 {a0 a1 a2 a3 a4 a5 a6 a7 a8 : Option Tr} {ts : List Tr} {r : En} : dMove 9 (a0 :: a1 :: a2 :: a3 :: a4 :: a5 :: a6 :: a7 :: a8 :: some (.ol ts) :: r) = .ok (.ol ts, a0 :: a1 :: a2 :: a3 :: a4 :: a5 :: a6 :: a7 :: a8 :: none :: r) := Eq.trans rfl rfl
@[simp] theorem pN_10 {a0 a1 a2 a3 a4 a5 a6 a7 a8 a9 : Option Tr} {t : Tr} {r : En} : pN 10 (a0 :: a1 :: a2 :: a3 :: a4 :: a5 :: a6 :: a7 :: a8 :: a9 :: some t :: r) = .ok (10, []) := Eq.trans rfl rfl
@[simp] theorem e_move10 {a0 a1 a2 a3 a4 a5 a6 a7 a8 a9 : Option Tr} {ts : List Tr} {r : En} : dMove 10 (a0 :: a1 :: a2 :: a3 :: a4 :: a5 :: a6 :: a7 :: a8 :: a9 :: some (.ol ts) :: r) = .ok (.ol ts, a0 :: a1 :: a2 :: a3 :: a4 :: a5 :: a6 :: a7 :: a8 :: a9 :: none :: r) := Eq.trans rfl rfl
@[simp] theorem pN_11 {a0 a1 a2 a3 a4 a5 a6 a7 a8 a9 a10 : Option Tr} {t : Tr} {r : En} : pN 11 (a0 :: a1 :: a2 :: a3 :: a4 :: a5 :: a6 :: a7 :: a8 :: a9 :: a10 :: some t :: r) = .ok (11, []) := Eq.trans rfl rfl
@[simp] theorem e_move11 {a0 a1 a2 a3 a4 a5 a6 a7 a8 a9 a10 : Option Tr} {ts : List Tr} {r : En} : dMove 11 (a0 :: a1 :: a2 :: a3 :: a4 :: a5 :: a6 :: a7 :: a8 :: a9 :: a10 :: some (.ol ts) :: r) = .ok (.ol ts, a0 :: a1 :: a2 :: a3 :: a4 :: a5 :: a6 :: a7 :: a8 :: a9 :: a10 :: none :: r) := Eq.trans rfl rfl
@[simp] theorem pN_12 {a0 a1 a2 a3 a4 a5 a6 a7 a8 a9 a10 a11 : Option Tr} {t : Tr} {r : En} : pN 12 (a0 :: a1 :: a2 :: a3 :: a4 :: a5 :: a6 :: a7 :: a8 :: a9 :: a10 :: a11 :: some t :: r) = .ok (12, []) := Eq.trans rfl rfl
@[simp] theorem e_move12 {a0 a1 a2 a3 a4 a5 a6 a7 a8 a9 a10 a11 : Option Tr} {ts : List Tr} {r : En} : dMove 12 (a0 :: a1 :: a2 :: a3 :: a4 :: a5 :: a6 :: a7 :: a8 :: a9 :: a10 :: a11 :: some (.ol ts) :: r) = .ok (.ol ts, a0 :: a1 :: a2 :: a3 :: a4 :: a5 :: a6 :: a7 :: a8 :: a9 :: a10 :: a11 :: none :: r) := Eq.trans rfl rfl
@[simp] theorem pN_13 {a0 a1 a2 a3 a4 a5 a6 a7 a8 a9 a10 a11 a12 : Option Tr} {t : Tr} {r : En} : pN 13 (a0 :: a1 :: a2 :: a3 :: a4 :: a5 :: a6 :: a7 :: a8 :: a9 :: a10 :: a11 :: a12 :: some t :: r) = .ok (13, []) := Eq.trans rfl rfl
@[simp] theorem e_move13 {a0 a1 a2 a3 a4 a5 a6 a7 a8 a9 a10 a11 a12 : Option Tr} {ts : List Tr} {r : En} : dMove 13 (a0 :: a1 :: a2 :: a3 :: a4 :: a5 :: a6 :: a7 :: a8 :: a9 :: a10 :: a11 :: a12 :: some (.ol ts) :: r) = .ok (.ol ts, a0 :: a1 :: a2 :: a3 :: a4 :: a5 :: a6 :: a7 :: a8 :: a9 :: a10 :: a11 :: a12 :: none :: r) := Eq.trans rfl rfl
@[simp] theorem pN_14 {a0 a1 a2 a3 a4 a5 a6 a7 a8 a9 a10 a11 a12 a13 : Option Tr} {t : Tr} {r : En} : pN 14 (a0 :: a1 :: a2 :: a3 :: a4 :: a5 :: a6 :: a7 :: a8 :: a9 :: a10 :: a11 :: a12 :: a13 :: some t :: r) = .ok (14, []) := Eq.trans rfl rfl
@[simp] theorem e_move14 {a0 a1 a2 a3 a4 a5 a6 a7 a8 a9 a10 a11 a12 a13 : Option Tr} {ts : List Tr} {r : En} : dMove 14 (a0 :: a1 :: a2 :: a3 :: a4 :: a5 :: a6 :: a7 :: a8 :: a9 :: a10 :: a11 :: a12 :: a13 :: some (.ol ts) :: r) = .ok (.ol ts, a0 :: a1 :: a2 :: a3 :: a4 :: a5 :: a6 :: a7 :: a8 :: a9 :: a10 :: a11 :: a12 :: a13 :: none :: r) := Eq.trans rfl rfl
@[simp] theorem pN_15 {a0 a1 a2 a3 a4 a5 a6 a7 a8 a9 a10 a11 a12 a13 a14 : Option Tr} {t : Tr} {r : En} : pN 15 (a0 :: a1 :: a2 :: a3 :: a4 :: a5 :: a6 :: a7 :: a8 :: a9 :: a10 :: a11 :: a12 :: a13 :: a14 :: some t :: r) = .ok (15, []) := Eq.trans rfl rfl
@[simp] theorem e_move15 {a0 a1 a2 a3 a4 a5 a6 a7 a8 a9 a10 a11 a12 a13 a14 : Option Tr} {ts : List Tr} {r : En} : dMove 15 (a0 :: a1 :: a2 :: a3 :: a4 :: a5 :: a6 :: a7 :: a8 :: a9 :: a10 :: a11 :: a12 :: a13 :: a14 :: some (.ol ts) :: r) = .ok (.ol ts, a0 :: a1 :: a2 :: a3 :: a4 :: a5 :: a6 :: a7 :: a8 :: a9 :: a10 :: a11 :: a12 :: a13 :: a14 :: none :: r) := Eq.trans rfl rfl
@[simp] theorem pN_16 {a0 a1 a2 a3 a4 a5 a6 a7 a8 a9 a10 a11 a12 a13 a14 a15 : Option Tr} {t : Tr} {r : En} : pN 16 (a0 :: a1 :: a2 :: a3 :: a4 :: a5 :: a6 :: a7 :: a8 :: a9 :: a10 :: a11 :: a12 :: a13 :: a14 :: a15 :: some t :: r) = .ok (16, []) := Eq.trans rfl rfl
@[simp] theorem e_move16 {a0 a1 a2 a3 a4 a5 a6 a7 a8 a9 a10 a11 a12 a13 a14 a15 : Option Tr} {ts : List Tr} {r : En} : dMove 16 (a0 :: a1 :: a2 :: a3 :: a4 :: a5 :: a6 :: a7 :: a8 :: a9 :: a10 :: a11 :: a12 :: a13 :: a14 :: a15 :: some (.ol ts) :: r) = .ok (.ol ts, a0 :: a1 :: a2 :: a3 :: a4 :: a5 :: a6 :: a7 :: a8 :: a9 :: a10 :: a11 :: a12 :: a13 :: a14 :: a15 :: none :: r) := Eq.trans rfl rfl
@[simp] theorem e_pSub (p : DenP) (fi : En → Rs Tr) : pSub p fi en = (p en).bind fun a => (dI fi en).bind fun k => match en[a.1]? with
  | some (some t) => match (nodeT t a.2).bind kidsO with
    | some ts => match ixN ts.length k with
      | some j => if j < ts.length then .ok (a.1, a.2 ++ [j]) else .no
      | none => .no
    | none => .no
  | _ => .no := Eq.trans rfl rfl
@[simp] theorem kidsO_ol (ts : List Tr) : kidsO (.ol ts) = some ts := rfl
@[simp] theorem kidsO_tp (ts : List Tr) : kidsO (.tp ts) = some ts := rfl
@[simp] theorem nodeT_nil (t : Tr) : nodeT t [] = some t := by cases t <;> rfl
@[simp] theorem nodeT_ol (ts : List Tr) (j : Nat) (js : List Nat) : nodeT (.ol ts) (j :: js) = (ts[j]?).bind fun u => nodeT u js := rfl
@[simp] theorem setN_nil (t u : Tr) : setN t [] u = some u := by cases t <;> rfl
@[simp] theorem setN_ol (ts : List Tr) (j : Nat) (js : List Nat) (u : Tr) : setN (.ol ts) (j :: js) u = (ts[j]?).bind fun x => (setN x js u).map fun y => .ol (ts.set j y) := rfl
@[simp] theorem e_app (p : DenP) (g : DenX) : dApp p g en = onR (p en) en fun a => if isOl en a.1 a.2 then onR (g en) en fun b => if noV b.1 then chg b.2 a.1 a.2 (fun ts => if ts.length < 100000 then some (ts ++ [b.1]) else none) else .no else .no := Eq.trans rfl rfl
@[simp] theorem e_ext (p : DenP) (g : DenX) : dExt p g en = onR (p en) en fun a => if isOl en a.1 a.2 then onR (g en) en fun b => match lkids b.1 with
  | some us => if noV b.1 then chg b.2 a.1 a.2 (fun ts => if ts.length + us.length < 100000 then some (ts ++ us) else none) else .no
  | none => .no else .no := Eq.trans rfl rfl
@[simp] theorem e_pop (p : DenP) : dPop p en = onR (p en) en fun a => chg en a.1 a.2 (fun ts => if 0 < ts.length then some ts.dropLast else none) := Eq.trans rfl rfl
@[simp] theorem e_xnil : dXNil en = .ok ([], en) := Eq.trans rfl rfl
@[simp] theorem e_xcons (g : DenX) (gs : DenXs) : dXCons g gs en = (g en).bind fun a => (gs a.2).bind fun b => .ok (a.1 :: b.1, b.2) := Eq.trans rfl rfl
@[simp] theorem e_xtup (gs : DenXs) : dXTup gs en = (gs en).bind fun a => if a.1.length ≤ 100000 then .ok (mkTp a.1, a.2) else .no := Eq.trans rfl rfl
@[simp] theorem e_while (n : Nat) (c : En → Rs Bool) (b : DenS) : dWhile n c b en = whileL c b n en := Eq.trans rfl rfl
@[simp] theorem lkids_ol (ts : List Tr) : lkids (.ol ts) = some ts := rfl
@[simp] theorem lkids_dl (ds : List PyData) : lkids (.d (.list ds)) = some (ds.map .d) := rfl
@[simp] theorem e_put (p : DenP) (fi : En → Rs Tr) (g : DenX) : dPut p fi g en = onR (g en) en fun b => onR (p b.2) b.2 fun a => onR (dI fi b.2) b.2 fun k => if noV b.1 then chg b.2 a.1 a.2 (fun ts => (ixN ts.length k).map fun j => ts.set j b.1) else .no := Eq.trans rfl rfl
end
@[simp] theorem gAllD_ts {α : Type} (xs : List α) : gAllD [.list (xs.map fun _ => .bool true)] = some (.bool true) := by
  have h : boolsD (xs.map fun _ => PyData.bool true) = some (xs.map fun _ => true) := by
    rw [show (xs.map fun _ => PyData.bool true) = (xs.map fun _ => true).map PyData.bool by simp]
    exact boolsD_map _
  show (boolsD _).map _ = _
  rw [h]
  simp
-- a comprehension without a test
theorem compL_all {α : Type} {T : Tg} {elt : En → Rs Tr} {en : En} {src : α → Tr} {out : α → Tr} : ∀ (xs : List α), (∀ a ∈ xs, ∃ en1, T (src a) en = some en1 ∧ elt en1 = .ok (out a) ∧ noV (out a) = true) → compL T none elt en (xs.map src) = .ok (xs.map out)
  | [], _ => rfl
  | a :: xs, h => by
    obtain ⟨en1, h1, h2, h3⟩ := h a List.mem_cons_self
    have ih := compL_all xs fun b hb => h b (List.mem_cons_of_mem _ hb)
    rw [List.map_cons, List.map_cons, compL, h1]
    simp [h2, h3, ih]
-- .. with a test
theorem compL_filter {α : Type} {T : Tg} {test : En → Rs Bool} {elt : En → Rs Tr} {en : En} {src : α → Tr} {ok : α → Bool} {out : α → Tr} : ∀ (xs : List α), (∀ a ∈ xs, ∃ en1, T (src a) en = some en1 ∧ test en1 = .ok (ok a) ∧ (ok a = true → elt en1 = .ok (out a) ∧ noV (out a) = true)) → compL T (some test) elt en (xs.map src) = .ok ((xs.filter ok).map out)
  | [], _ => rfl
  | a :: xs, h => by
    obtain ⟨en1, h1, h2, h3⟩ := h a List.mem_cons_self
    have ih := compL_filter xs fun b hb => h b (List.mem_cons_of_mem _ hb)
    rw [List.map_cons, compL, h1]
    cases e : ok a with
    | true =>
      obtain ⟨h4, h5⟩ := h3 e
      simp [h2, e, h4, h5, ih]
    | false => simp [h2, e, ih]
end RP
namespace RT
open PySem PySem.Spec PyProof.Rows PySem.Calls PySem.W L2
section
variable {prog : Program} {w : World} {A : Around} {E : Value → Shared → Prop} {s : Shared} {R : Result → Shared → Prop}
-- the empty list at S takes in what the walk from the end back yields
theorem rv_ext {it l : Addr} {items : Array Value} (hh : A.handled = none) (S : Addr) (res : Value) (c₀ : Nat) (hSi : S ≠ it) (hSl : S ≠ l) (hit : s.heap.IsRevIter it l ((items.size : Int) - 1)) (hl : s.heap.IsList l items) (hne : l ≠ it) (hn : items.size ≤ sizeLine)
    (hS : s.heap.get? S = some { cls := .type "list", data := .seq #[] c₀ })
    (hR : ∀ h' tk acc' c', (∀ b o, b ≠ S → b ≠ it → s.heap.get? b = some o → h'.get? b = some o) → h'.get? S = some { cls := .type "list", dict := none, data := .seq acc' c', slots := #[] } → ItemsOf (fun i v => items[items.size - 1 - i]? = some v) acc' items.size → R (.ok (.ret res)) { s with heap := h', toks := tk }) :
    wpAny (model prog w) A.in1 (Builtin.List.listExtendWith (.ref S) (.ref it) res)
      (fun fin s' => match fin with | .done f => R (.ok f) s' | .again c' => c'.quiet = true ∧ codeAny (model prog w) A c' R s') (fun e s' => R (.error e) s') s := by
  have walk := (Walks.listRev (prog := prog) (w := w) (A := A.in1) hh it l hne items).toS
  have away : S ∉ [it, l] := by simp only [List.mem_cons, List.not_mem_nil, or_false, not_or]; exact ⟨hSi, hSl⟩
  have ty : s.TypeIs (.ref it) "list_reverseiterator" := hit.typeIs
  have same : Builtin.List.listSameRef (.ref S) (.ref it) = false := by simp [Builtin.List.listSameRef, hSi]
  unfold Builtin.List.listExtendWith
  refine wpAny_bind (wpAny_typeOf ty ?_)
  rw [if_neg (by rw [same]; decide)]
  refine wpAny_bind (wpAny_pyIter_revIter hit ?_)
  refine wpAny_bind (wpAny_holding ?_)
  unfold Builtin.List.listLengthHint
  refine wpAny_bind (wpAny_specialOf ty nolen_lri ?_)
  show wpAny _ A.in1 ((specialOf (Value.ref it) (Str.ofString "__length_hint__")) >>= _) _ _ _
  refine wpAny_bind (wpAny_specialOf ty hint_lri ?_)
  generalize hid : ("list_reverseiterator.__length_hint__" : String) = nm
  wp_delta
  rw [show splitId nm = some ("list_reverseiterator", "__length_hint__") by subst hid; decide +kernel]
  subst hid
  refine wpAny_bind (wpAny_isInstance (b := true) ty (by rw [isSubtype_type]; kernel_rfl) ?_)
  refine wpAny_pure ?_
  rw [if_neg (by decide)]
  have z0 : ((items.size : Nat) : Int) - 1 - ((0 : Nat) : Int) = (items.size : Int) - 1 := by omega
  refine wpAny_pure ⟨plainId_quiet F.plain_extend_loop _, codeAny_extend_loopS walk hn _ away _ items.size 0 _ _ _ rfl (Nat.zero_le _) ⟨Nat.zero_le _, by rw [z0]; exact hit, hl⟩ hS (ItemsOf.nil _) fun s' acc' c' hm hS' hacc => ?_⟩
  rw [Moved.eq_with hm]
  refine hR s'.heap s'.toks acc' c' (fun b o hb hb2 e => hm.heap b o (fun hmem => ?_) e) hS' hacc
  rcases List.mem_cons.mp hmem with e' | hmem
  · exact hb e'
  · exact hb2 (List.mem_singleton.mp hmem)
theorem rv_list {it l : Addr} {items : Array Value} {Q : Value → Shared → Prop} (hh : A.handled = none) (hit : s.heap.IsRevIter it l ((items.size : Int) - 1)) (hl : s.heap.IsList l items) (hne : l ≠ it) (hn : items.size ≤ sizeLine)
    (hQ : ∀ h' tk acc' c', (∀ b o, b ≠ it → s.heap.get? b = some o → h'.get? b = some o) → h'.get? s.heap.objs.size = some { cls := .type "list", dict := none, data := .seq acc' c', slots := #[] } → ItemsOf (fun i v => items[items.size - 1 - i]? = some v) acc' items.size →
      Q (.ref s.heap.objs.size) { s with heap := h', toks := tk }) :
    wpAny (model prog w) A (call (.type "list") [.ref it]) Q E s := by
  obtain ⟨oi, hoi, _⟩ := id hit
  obtain ⟨ol, hol, _⟩ := id hl
  have far1 : s.heap.objs.size ≠ it := Nat.ne_of_gt (Heap.lt_size hoi)
  have far2 : s.heap.objs.size ≠ l := Nat.ne_of_gt (Heap.lt_size hol)
  refine callType_codes (Q₁ := fun obj t => obj = .ref s.heap.objs.size ∧ t = { s with heap := s.heap.push { cls := .type "list", data := .seq #[] } }) F.called_list (F.typeCall_list_1 _) F.entry_list_init
    (code_list_new _ ⟨rfl, rfl⟩) fun obj t h₁ => ?_
  obtain ⟨rfl, rfl⟩ := h₁
  have new : (s.heap.push { cls := .type "list", data := .seq #[] }).get? s.heap.objs.size = some { cls := .type "list", data := .seq #[] } := Heap.get?_push_size _ rfl
  refine ⟨⟨_, new, rfl⟩, F.args_list_init_2 _ _, ?_⟩
  generalize hp : (s.heap.push { cls := .type "list", data := .seq #[] }) = h1 at new
  have old : ∀ b o, s.heap.get? b = some o → h1.get? b = some o := fun b o e => by rw [← hp]; exact Heap.get?_push_of_some _ e
  show wpAny _ _ (Builtin.List.listItems (.ref s.heap.objs.size) >>= fun old => Builtin.List.listUpdate (.ref s.heap.objs.size) (fun _ => #[]) >>= fun _ => letGo old.toList.reverse >>= fun _ => Builtin.List.listExtendWith (.ref s.heap.objs.size) (.ref it) .none) _ _ _
  refine wpAny_bind ?_
  unfold Builtin.List.listItems
  refine wpAny_bind (wpAny_seqItems new rfl (wpAny_pure ?_))
  show wpAny _ _ (updateSeq s.heap.objs.size (fun _ => #[]) >>= fun _ => letGo (#[] : Array Value).toList.reverse >>= fun _ => Builtin.List.listExtendWith (.ref s.heap.objs.size) (.ref it) .none) _ _ _
  refine wpAny_bind (wpAny_updateSeq new rfl ?_)
  have emp := Heap.get?_update_self (Obj.mapSeq (fun _ => (#[] : Array Value))) new rfl
  have oth : ∀ b o, b ≠ s.heap.objs.size → h1.get? b = some o → (h1.update s.heap.objs.size (Obj.mapSeq (fun _ => (#[] : Array Value)))).get? b = some o :=
    fun b o hb e => (Heap.get?_update_other _ _ (Ne.symm hb)).trans e
  refine wpAny_bind (wpAny_letGo ?_)
  refine rv_ext (A := A.in1) (items := items) (l := l) (it := it) hh _ _ _ far1 far2 (hit.at fun o e => oth it o (Ne.symm far1) (old it o e)) ?_ hne hn emp fun h' tk acc' c' hk hS' hacc => ⟨rfl, hQ h' tk acc' c' (fun b o hb e => ?_) hS' hacc⟩
  · obtain ⟨o, e, r⟩ := id hl
    exact ⟨o, oth l o (Ne.symm far2) (old l o e), r⟩
  · have nb : b ≠ s.heap.objs.size := Nat.ne_of_lt (Heap.lt_size e)
    exact hk b o nb hb (oth b o nb (old b o e))
end
end RT
namespace RP
open PySem PySem.Spec PyProof.Rows PySem.Calls PySem.W L2
def tLstRev (K : PySem.W.Frag) (te : TE) : TE := fun σ H Q => te σ H fun v H1 => ∃ (a : Addr) (xs : List V), v = .ref a ∧ SqL K H1 a xs ∧ ∀ q, H1 q = none → Q (.ref q) (upd H1 q (.lst xs.reverse))
section
variable {X : Cx}
theorem pe_lstRev {e : Expr} {te : TE} {p p2 pos pos2 : Pos} (hc : X.calm = true) (hg : Gl X "list") (hm : X.mg "list" = none) (hg2 : Gl X "reversed") (hm2 : X.mg "reversed" = none) (he : PE X e te)
    (h1 : starEach [e] X.env = (false, eval e X.env) :: starEach [] X.env := by rfl)
    (h2 : starEach [.Call (.Name "reversed" p2) [e] [] pos2] X.env = (false, eval (.Call (.Name "reversed" p2) [e] [] pos2) X.env) :: starEach [] X.env := by rfl) :
    PE X (.Call (.Name "list" p) [.Call (.Name "reversed" p2) [e] [] pos2] [] pos) (tLstRev X.K te) := by
  constructor
  intro pins s σ H Q I h
  have rest : wpAny (model X.prog X.w) X.A (eval (.Call (.Name "reversed" p2) [e] [] pos2) X.env) (fun r s2 => wpAny (model X.prog X.w) X.A (call (.type "list") [r]) (EP X pins σ Q) X.xe s2) X.xe s := by
    refine Call_ (ld_blt I hg2 hm2 PyProof.Rows.boot_reversed (PyProof.Rows.callWith_type1 (args_cons (thn (he.run pins s σ H _ I h) fun u s1 hz => args_nil ?_) h1) h1 rfl))
    obtain ⟨v, H1, I1, r1, a, xs, rfl, hq, q⟩ := hz
    obtain rfl : u = Value.ref a := r1
    obtain ⟨its, rv, pl, hsz⟩ := I1.list hq
    have hl := pl.isList
    refine call_reversed_list hl ?_
    obtain ⟨ol, hol, _⟩ := id hl
    have ne : a ≠ s1.heap.objs.size := Nat.ne_of_lt (Heap.lt_size hol)
    have small : its.toArray.size ≤ sizeLine := by rw [List.size_toArray, ← rv.length]; exact hsz
    refine RT.rv_list (A := X.A) (items := its.toArray) (s := { s1 with heap := s1.heap.push (revObj a ((its.toArray.size : Int) - 1)) }) (I1.ok.hd hc) ⟨_, Heap.get?_push_size _ rfl, rfl, rfl⟩ (hl.push _) ne small fun h' tk acc c' hk hS hi => ?_
    have big : s1.heap.objs.size ≤ (s1.heap.push (revObj a ((its.toArray.size : Int) - 1))).objs.size := by rw [Heap.size_push]; exact Nat.le_succ _
    refine ⟨.ref _, _, I1.laid (t' := tk) (fun b o e => hk b o (Nat.ne_of_lt (Heap.lt_size e)) (Heap.get?_push_of_some _ e)) big (show ObjOk X.prog X.w _ h' _ (.lst xs.reverse) from ⟨by rw [List.length_reverse]; exact hsz, acc.toList, c', RT.vals_rev rv hi, by rw [Array.toArray_toList]; exact hS⟩), rfl, q _ (I1.hok.fresh big)⟩
  refine Call_ (ld_blt I hg hm boot_list (PyProof.Rows.callWith_type1 (args_cons (thn rest fun r s2 hz => args_nil hz) h2) h2 rfl))
end
def gRev : List Tr → Option Tr
  | [t] => match kidsS t with
    | some (true, ks) => some (.ol ks.reverse)
    | _ => none
  | _ => none
@[simp] theorem gRev_v (xs : List PyData) : gRev [.v (.list xs)] = some (.ol (xs.map mkV).reverse) := rfl
@[simp] theorem gRev_d (xs : List PyData) : gRev [.d (.list xs)] = some (.ol (xs.map Tr.d).reverse) := rfl
@[simp] theorem gRev_ol (xs : List Tr) : gRev [.ol xs] = some (.ol xs.reverse) := rfl
theorem RTs.rev {K : PySem.W.Frag} {G H F : Hp} : ∀ {ts : List Tr} {vs : List V} {f : List Addr}, RTs K G H F ts vs f → ∃ f', RTs K G H F ts.reverse vs.reverse f' ∧ (∀ a ∈ f', a ∈ f) ∧ (f.Nodup → f'.Nodup)
  | [], vs, f, ⟨e1, e2⟩ => by subst e1 e2; exact ⟨[], ⟨rfl, rfl⟩, fun _ h => h, id⟩
  | t :: ts, _, _, ⟨v, vs', f1, f2, e1, e2, h1, h2⟩ => by
    subst e1 e2
    obtain ⟨f', a1, a2, a3⟩ := RTs.rev h2
    rw [List.reverse_cons, List.reverse_cons]
    refine ⟨f' ++ f1, RTs.append a1 (RTs.one h1), fun a ha => ?_, fun nd => ?_⟩
    · rcases List.mem_append.mp ha with q | q
      · exact List.mem_append_right _ (a2 a q)
      · exact List.mem_append_left _ q
    · obtain ⟨n1, n2, n3⟩ := List.nodup_append.mp nd
      exact List.nodup_append.mpr ⟨a3 n2, n1, fun a ha b hb z => n3 b hb a (a2 a ha) z.symm⟩
section
variable {X : Cx} {W : WW} {e : Expr} {fa : En → Rs Tr}
theorem sn_rev {p p2 pos pos2 : Pos} (hc : X.calm = true) (hg : Gl X "list") (hm : X.mg "list" = none) (hg2 : Gl X "reversed") (hm2 : X.mg "reversed" = none) (he : Snd X W e fa)
    (h1 : starEach [e] X.env = (false, eval e X.env) :: starEach [] X.env := by rfl)
    (h2 : starEach [.Call (.Name "reversed" p2) [e] [] pos2] X.env = (false, eval (.Call (.Name "reversed" p2) [e] [] pos2) X.env) :: starEach [] X.env := by rfl) :
    Snd X W (.Call (.Name "list" p) [.Call (.Name "reversed" p2) [e] [] pos2] [] pos) (dUn gRev fa) :=
  pe_wk (pe_lstRev hc hg hm hg2 hm2 he h1 h2) fun σ H Q h => by
    obtain ⟨F, en, fp, O, S, h⟩ := h
    refine ⟨F, en, fp, O, S, ?_⟩
    rw [e_un] at h
    cases q : fa en with
    | er c => rw [q] at h; exact h
    | no => rw [q] at h; exact h
    | ok t =>
      rw [q] at h
      simp only [Rs.bind_ok'] at h
      intro v H1 ⟨e1, fq, nd, fr, rt⟩
      have S1 := S.add e1 fq fr (RT.own t v fq rt)
      cases hk : kidsS t with
      | none => rw [show gRev [t] = none by simp [gRev, hk]] at h; exact h.elim
      | some bk =>
        obtain ⟨b, ks⟩ := bk
        cases b with
        | false => rw [show gRev [t] = none by simp [gRev, hk]] at h; exact h.elim
        | true =>
          rw [show gRev [t] = some (.ol ks.reverse) by simp [gRev, hk]] at h
          obtain ⟨a, vs, f, rfl, h3, _, h4, h5⟩ := RT.kidsS S1.wf rt hk
          refine ⟨a, vs, rfl, h3 rfl, fun x hx => ?_⟩
          obtain ⟨f', a1, a2, a3⟩ := RTs.rev h4
          have ex : Exn H1 (upd H1 x (.lst vs.reverse)) := Exn.new hx
          have nx : ¬ (O x ∨ x ∈ fq) := S1.wf.fresh hx
          have sub : ∀ a ∈ f', a ∈ fq := fun a ha => h5.subset (a2 a ha)
          refine h _ _ ⟨e1.trans ex, x :: f', List.nodup_cons.mpr ⟨fun z => nx (.inr (sub x z)), a3 (h5.nodup nd)⟩, fun a ha => ?_, x, vs.reverse, f', rfl, rfl, upd_same, RTs.mono (gh_mono (fun a o _ q => ex a o q) fun a q => ?_) ex (Exn.refl _) _ _ _ a1⟩
          · rcases List.mem_cons.mp ha with z | z
            · rw [z]; exact e1.back hx
            · exact fr a (sub a z)
          · rcases q with q | q
            · exact .inl (.inl q)
            · rcases List.mem_cons.mp q with z | z
              · rw [z]; exact .inr hx
              · exact .inl (.inr (sub a z))
end

/-! ### a slot is frozen: nobody changes it from here on -/
def dFrz (j : Nat) : DenS := fun en => match en[j]? with
  | some (some t) => .nx (en.set j (some (frz t)))
  | _ => .no
theorem set_self {α : Type} : ∀ {xs : List α} {j : Nat} {x : α}, xs[j]? = some x → xs.set j x = xs
  | [], _, _, h => by simp at h
  | y :: xs, 0, x, h => by
    have e : y = x := by simpa using h
    rw [e]; rfl
  | y :: xs, j + 1, x, h => by
    rw [List.set_cons_succ, set_self (by simpa using h)]
section
variable {K : PySem.W.Frag} {W : WW} {D : Ends} {σ : L2.St} {H : Hp}
theorem ts_frz {j : Nat} {g : DenS} (h : tS K W (dSeq (dFrz j) g) D σ H) : tS K W g D σ H := by
  obtain ⟨F, en, fp, O, S, h⟩ := h
  have h' : Po K W D F (gh F O H) (andThen (dFrz j en) g) := h
  unfold dFrz at h'
  cases e : en[j]? with
  | none => rw [e] at h'; exact h'.elim
  | some o =>
    cases o with
    | none => rw [e] at h'; exact h'.elim
    | some t =>
      rw [e] at h'
      simp only [then_nx] at h'
      have hj : j < en.length := (List.getElem?_eq_some_iff.mp e).1
      by_cases hc : clean t = true
      · cases hd : data t with
        | none =>
          have e2 : frz t = t := by unfold frz; rw [if_pos hc, hd]
          rw [e2, set_self e] at h'
          exact ⟨F, en, fp, O, S, h'⟩
        | some x =>
          have e2 : frz t = .d x := by unfold frz; rw [if_pos hc, hd]
          rw [e2] at h'
          have g1 : Exn (gh F O H) (gh F (fun a => O a ∧ a ∉ fp j) H) := gh_mono (fun _ _ _ q => q) fun a q => .inl q.1
          obtain ⟨v, hv, r⟩ := S.sl j t e
          have rp : Rp (gh F (fun a => O a ∧ a ∉ fp j) H) x v := RT.freeze g1 t v (fp j) x (fun a ha o q => gh_new q (fun z => z.2 ha) (S.nw a (S.fo j a ha))) hc hd r
          refine ⟨F, en.set j (some (.d x)), fun i => if i = j then [] else fp i, fun a => O a ∧ a ∉ fp j, ⟨⟨by rw [List.length_set]; exact S.len, fun i u q => ?_, fun i => ?_, fun i k a h1 h2 => ?_, fun i a q => ?_, fun a q => S.own a q.1, fun a q => S.nw a q.1, S.ex⟩, nv_set rfl S.nv⟩, Po.later h' g1⟩
          · by_cases z : i = j
            · subst z
              rw [List.getElem?_set_self hj] at q
              cases q
              exact ⟨v, hv, by rw [if_pos rfl]; exact ⟨rfl, rp⟩⟩
            · rw [List.getElem?_set_ne (Ne.symm z)] at q
              obtain ⟨w, h1, h2⟩ := S.sl i u q
              exact ⟨w, h1, by rw [if_neg z]; exact RT.mono g1 (Exn.refl _) (Exn.refl _) u w _ h2⟩
          · split
            · exact List.nodup_nil
            · exact S.nd i
          · by_cases z1 : i = j
            · rw [if_pos z1] at h1; cases h1
            · by_cases z2 : k = j
              · rw [if_pos z2] at h2; cases h2
              · rw [if_neg z1] at h1
                rw [if_neg z2] at h2
                exact S.dj i k a h1 h2
          · by_cases z : i = j
            · rw [if_pos z] at q; cases q
            · rw [if_neg z] at q
              exact ⟨S.fo i a q, fun y => z (S.dj i j a q y)⟩
      · have e2 : frz t = t := by unfold frz; rw [if_neg hc]
        rw [e2, set_self e] at h'
        exact ⟨F, en, fp, O, S, h'⟩
end
theorem sb_frz {X : Cx} {W : WW} {ss : List Stmt} (j : Nat) {g : DenS} (h : SndB X W ss g) : SndB X W ss (dSeq (dFrz j) g) := pss_wk h fun _ _ _ q => ts_frz q
end RP
namespace RP
open PySem L2
def ownE : List Str := ["NoLaying", "NoNumber", "TooMany", "BadRun", "Wide", "NoNote"]
-- what the suite notes of an error of the class c
def marksOf (c : Str) : List Bool := ownE.map (fun x => c == x) ++ [true]
def marksT (c : Str) : Tr := .d (.list ((marksOf c).map .bool))
def dTry (L : List Str) (i m : Nat) (body : DenS) : DenS := fun en => match body en with
  | .er c en' => if L.contains c && decide (m < en'.length) && decide (i < en'.length) && decide (i ≠ m) then .nx ((en'.set i none).set m (some (marksT c))) else .no
  | r => r
-- isinstance(e, v), e in slot i the error at a, of the class D
def tIs (K : PySem.W.Frag) (D a : Addr) (i : Nat) (v : V) : TE := tCB (rIsE K D a) (tCons (tVar i) (tCons (tC v) tNil))
def tIsL (K : PySem.W.Frag) (D a : Addr) (i : Nat) : List V → TA
  | [] => tNil
  | v :: vs => tCons (tIs K D a i v) (tIsL K D a i vs)
def tSui (K : PySem.W.Frag) (D a : Addr) (i m : Nat) (vs ws : List V) : TS :=
  tSeq (tAsg (tLst (tIsL K D a i vs)) (gName m)) (tAsg (tOp rCat (tVar m) (tLst (tIsL K D a i ws))) (gName m))
inductive IsAll (K : PySem.W.Frag) (D : Addr) : List V → List Bool → Prop
  | nil : IsAll K D [] []
  | cons {v : V} {vs : List V} {u : Value} {b : Bool} {bs : List Bool} (h1 : ∀ u', RelV v u' → u' = u) (h2 : PySem.W.kitOne K (.ref D) u = some b) (h3 : IsAll K D vs bs) : IsAll K D (v :: vs) (b :: bs)
theorem IsAll.ref {K : PySem.W.Frag} {D C : Addr} {vs : List V} {b : Bool} {bs : List Bool} (h2 : PySem.W.kitOne K (.ref D) (.ref C) = some b) (h3 : IsAll K D vs bs) : IsAll K D (.ref C :: vs) (b :: bs) := .cons (fun _ h => h) h2 h3
theorem IsAll.typ {K : PySem.W.Frag} {D : Addr} {T : String} {vs : List V} {b : Bool} {bs : List Bool} (h2 : PySem.W.kitOne K (.ref D) (.type T) = some b) (h3 : IsAll K D vs bs) : IsAll K D (.ty T :: vs) (b :: bs) := .cons (fun _ h => h) h2 h3
section
variable {K : PySem.W.Frag} {D a : Addr} {i m : Nat} {σ : L2.St} {H : Hp}
theorem isl_ok (hi : σ[i]? = some (some (.ref a))) : ∀ {vs : List V} {bs : List Bool} {Q : List V → Hp → Prop}, IsAll K D vs bs → Q (bs.map V.bl) H → tIsL K D a i vs σ H Q
  | [], _, Q, .nil, q => q
  | v :: vs, _, Q, .cons h1 h2 h3, q => by
    refine ⟨.ref a, hi, v, _, _, rfl, h1, h2, ?_⟩
    exact isl_ok (Q := fun xs H' => Q (_ :: xs) H') hi h3 q
theorem sui_ok {E : Ends} {vs ws : List V} {bs cs : List Bool} (him : i ≠ m) (hm : m < σ.length) (h1 : IsAll K D vs bs) (h2 : IsAll K D ws cs) (hl : bs.length + cs.length ≤ 1000)
    (hi : σ[i]? = some (some (.ref a))) (k : ∀ (p : Addr) (H' : Hp), Exn H H' → H p = none → H' p = some (.lst ((bs ++ cs).map V.bl)) → E.nx (σ.set m (some (.ref p))) H') : tSui K D a i m vs ws E σ H := by
  refine isl_ok hi h1 ⟨by rw [List.length_map]; exact sz _ (by omega), fun p hp => ?_⟩
  have e1 : Exn H (upd H p (.lst (bs.map V.bl))) := Exn.new hp
  have hi2 : (σ.set m (some (.ref p)))[i]? = some (some (.ref a)) := by rw [List.getElem?_set_ne (Ne.symm him)]; exact hi
  refine ⟨.ref p, by rw [List.getElem?_set_self hm], ?_⟩
  refine isl_ok hi2 h2 ⟨by rw [List.length_map]; exact sz _ (by omega), fun q hq => ?_⟩
  have nqp : p ≠ q := fun z => by rw [← z, upd_same] at hq; cases hq
  refine ⟨p, q, _, _, rfl, rfl, by rw [upd_ne nqp, upd_same], upd_same, by rw [List.length_map, List.length_map]; exact sz _ (by omega), fun r hr => ?_⟩
  have e2 : Exn (upd H p (.lst (bs.map V.bl))) (upd (upd H p (.lst (bs.map V.bl))) q (.lst (cs.map V.bl))) := Exn.new hq
  have e3 := Exn.new (o := .lst (bs.map V.bl ++ cs.map V.bl)) hr
  show E.nx ((σ.set m (some (.ref p))).set m (some (.ref r))) _
  rw [List.set_set]
  exact k r _ ((e1.trans e2).trans e3) ((e1.trans e2).back hr) (by rw [upd_same, List.map_append])
-- the list of marks is data
theorem rps_bools {G : Hp} : ∀ bs : List Bool, Rps G (bs.map .bool) (bs.map V.bl)
  | [] => rfl
  | b :: bs => ⟨_, _, rfl, rfl, rps_bools bs⟩
-- what must be known of the errors that may come
structure ErrOk (K : PySem.W.Frag) (cl : Str → Addr) (base : Value) (vs ws : List V) (c : Str) : Prop where
  ex : ExcC K (cl c)
  one : PySem.W.exmOne K (.ref (cl c)) base = some true
  all : ∃ bs cs, IsAll K (cl c) vs bs ∧ IsAll K (cl c) ws cs ∧ bs ++ cs = marksOf c
def tSuiA (K : PySem.W.Frag) (cl : Str → Addr) (L : List Str) (i m : Nat) (vs ws : List V) : Addr → Value → Option Addr → TS := fun a cls d E σ H => ∃ c, c ∈ L ∧ cls = .ref (cl c) ∧ d = none ∧ tSui K (cl c) a i m vs ws E σ H
theorem sui_any {X : Cx} {cl : Str → Addr} {L : List Str} {vs ws : List V} {ss : List Stmt} (h : ∀ (c : Str) (oe : Obj) (pn : List (Addr × Obj)), c ∈ L → Zc (.ref (cl c)) none oe → (∃ vs, oe.data = .fields vs) → PSs (X.suite a ((a, oe) :: pn)) ss (tSui X.K (cl c) a i m vs ws)) :
    ∀ (oe : Obj) (cls : Value) (d : Option Addr) (pn : List (Addr × Obj)), Zc cls d oe → (∃ vs, oe.data = .fields vs) → PSs (X.suite a ((a, oe) :: pn)) ss (tSuiA X.K cl L i m vs ws a cls d) := fun oe cls d pn hz hf => by
  constructor
  intro pins s σ H E I q
  obtain ⟨c, hc, rfl, rfl, q⟩ := q
  exact (h c oe pn hc hz hf).run pins s σ H E I q
theorem ts_try {cl : Str → Addr} {L : List Str} {vs ws : List V} {base : Value} {body : DenS} {Wout : WX} {E : Ends} (ok : ∀ c ∈ L, ErrOk K cl base vs ws c) (h : tS K (wOf cl Wout) (dTry L i m body) E σ H) :
    tS K (wOf cl (wAs K base i (tSuiA K cl L i m vs ws) Wout E)) body E σ H := by
  obtain ⟨F, en, fp, O, S, h⟩ := h
  refine ⟨F, en, fp, O, S, ?_⟩
  unfold dTry at h
  cases e : body en with
  | nx en' => rw [e] at h; exact h
  | rt t en' => rw [e] at h; exact h
  | bk en' => rw [e] at h; exact h
  | ct en' => rw [e] at h; exact h
  | no => rw [e] at h; exact h
  | er c en' =>
    rw [e] at h
    simp only at h
    by_cases hc : (L.contains c && decide (m < en'.length) && decide (i < en'.length) && decide (i ≠ m)) = true
    · rw [if_pos hc] at h
      simp only [Bool.and_eq_true, decide_eq_true_eq] at hc
      obtain ⟨⟨⟨h1, h2⟩, h3⟩, h4⟩ := hc
      have hL : c ∈ L := by simpa using h1
      obtain ⟨k1, k2, bs, cs, k3, k4, k5⟩ := ok c hL
      intro σ' H' fp' O' S' g'
      refine ⟨true, k2, fun _ a ha => ⟨c, hL, rfl, rfl, ?_⟩, fun z => by cases z⟩
      have hlen : bs.length + cs.length ≤ 1000 := by
        rw [← List.length_append, k5]
        show 7 ≤ 1000
        decide
      refine sui_ok h4 (by rw [List.length_set, S'.len]; exact h2) k3 k4 hlen (List.getElem?_set_self (by rw [S'.len]; exact h3)) fun p H2 e2 np hp => ?_
      rw [k5] at hp
      have S2 := S'.grow e2
      -- the slot of the error is forgotten, the marks are put
      have S3 : StS K F (en'.set i none) (σ'.set i none) H2 (fun k => if k = i then [] else fp' k) O' := ⟨S2.toStt.drop i, fun k u q => by
        by_cases z : k = i
        · subst z
          rw [List.getElem?_set_self h3] at q; cases q
        · rw [List.getElem?_set_ne (Ne.symm z)] at q
          exact S2.nv k u q⟩
      have rp : Rp (gh F O' H2) (.list ((marksOf c).map .bool)) (.ref p) := ⟨p, _, rfl, gh_new hp (S'.toStt.fresh np) (S'.ex.back np), rps_bools _⟩
      have S4 := S3.put (t := marksT c) (v := .ref p) m [] List.nodup_nil (fun _ z => by cases z) (fun _ _ _ z => by cases z) ⟨rfl, rp⟩ (by rw [List.length_set]; exact h2) rfl
      have e5 : ((σ'.set i (some (.ref a))).set m (some (.ref p))).set i none = (σ'.set i none).set m (some (.ref p)) := by
        rw [List.set_comm _ _ (Ne.symm h4), List.set_set]
      show E.nx (((σ'.set i (some (.ref a))).set m (some (.ref p))).set i none) H2
      rw [e5]
      exact h _ H2 _ O' S4 (g'.trans (gh_grow e2))
    · rw [if_neg hc] at h
      exact h.elim
end
section
variable {X : Cx} {x n : Str} {i m : Nat} {body suite : List Stmt} {b₀ : Stmt} {np pos pos' : Pos} {Wout : WX} {cl : Str → Addr} {L : List Str} {vs ws : List V} {base : Value} {fb : DenS}
theorem ss_try (L : List Str) (ok : ∀ c ∈ L, ErrOk X.K cl base vs ws c) (hs : X.stack = X.env :: X.outer) (hf : X.env.frame = some X.env.locals) (hN : X.N.Nodup) (hi : X.N[i]? = some n) (hln : X.env.kindOf n = some .local) (hc : Names X x base) (tk : Takes X Wout)
    (hb : ∀ (W : WX) (pn : List (Addr × Obj)) (xe : Value → Shared → Prop), Takes (X.tr pn xe) W → PassesOwn (model X.prog X.w) X.A X.env xe → SndB (X.tr pn xe) (wOf cl W) body fb)
    (hsu : ∀ (a : Addr) (c : Str) (oe : Obj) (pn : List (Addr × Obj)), c ∈ L → Zc (.ref (cl c)) none oe → (∃ vs, oe.data = .fields vs) → PSs (X.suite a ((a, oe) :: pn)) (b₀ :: suite) (tSui X.K (cl c) a i m vs ws)) :
    SndS X (wOf cl Wout) (.Try body [.ExceptHandler (some (.Name x np)) (some n) (b₀ :: suite) pos'] [] [] pos) (dTry L i m fb) :=
  ps_wk (ps_try_as hs hf hN hi hln hc tk (tb := fun W => tS X.K (wOf cl W) fb) (ts := tSuiA X.K cl L i m vs ws) hb fun a oe cls d pn hz hf => sui_any (a := a) (fun c oe pn hc hz hf => hsu a c oe pn hc hz hf) oe cls d pn hz hf) fun _ _ _ h => ts_try ok h
-- isinstance(e, C) in the suite
theorem pe_is {a D : Addr} {oe : Obj} {pn : List (Addr × Obj)} {e c : Expr} {v : V} {p cpos : Pos} (C : ExcC X.K D) (hz : Zc (.ref D) none oe) (hf : ∃ vs, oe.data = .fields vs) (hg : Gl X "isinstance") (hm : X.mg "isinstance" = none) (he : PE (X.suite a ((a, oe) :: pn)) e (tVar i)) (hc : PE (X.suite a ((a, oe) :: pn)) c (tC v))
    (h1 : starEach (e :: [c]) X.env = (false, eval e X.env) :: starEach [c] X.env := by rfl) (h2 : starEach (c :: []) X.env = (false, eval c X.env) :: starEach [] X.env := by rfl) (hpl : (backTo cpos (starEach [c] X.env)).any (·.1) = false := by rfl) :
    PE (X.suite a ((a, oe) :: pn)) (.Call (.Name "isinstance" p) [e, c] [] cpos) (tIs X.K D a i v) :=
  pe_callB (X := X.suite a ((a, oe) :: pn)) (call_isE C hz hf) hg hm PyProof.Rows.boot_isinstance (pa_cons he (pa_cons hc pa_nil h2) h1) (by decide) (by decide) h1 hpl
end
end RP
namespace RP
open PySem L2
section
variable {X : Cx} {x : Str} {pos : Pos}
theorem pe_gInt {n : Int} (hg : Gl X x) (hm : ∃ t, X.mg x = some (.int n t)) (hd : (x == ("__debug__" : Str)) = false := by decide) : PE X (.Name x pos) (tC (.int n)) := by
  obtain ⟨t, h⟩ := hm
  exact pe_glob hg h ⟨t, rfl⟩ hd
theorem pe_gStr {z : Str} (hg : Gl X x) (hm : ∃ t, X.mg x = some (.str z t)) (hd : (x == ("__debug__" : Str)) = false := by decide) : PE X (.Name x pos) (tC (.str z)) := by
  obtain ⟨t, h⟩ := hm
  exact pe_glob hg h ⟨t, rfl⟩ hd
end
end RP
namespace RP
open PySem PySem.W L2
-- what k_is finds, turned to what isinstance and the except clause ask
section
variable {K : Frag} {C D : Addr} {bm : List Value} {nw : String}
theorem sub_self (x : excIn K C bm nw = true) : subIn K (.ref C) (.ref C) = some true := by
  unfold excIn at x
  show mroIn K C (.ref C) = some true
  unfold mroIn clsIn
  split at x
  · rename_i dd cd sl ho
    rw [ho]
    split at x
    · rename_i C' bm' g1 g2 g3 g4 n' g5 hm hq
      simp only [Bool.and_eq_true, beq_iff_eq] at x
      have e : C' = C := x.1.1.1.1.1
      subst e
      simp [hm]
    · cases x
  · cases x
theorem kit_ref {b : Bool} (x : excIn K C bm nw = true) (hd : hasDictIn K D = true) (ht : typeIn K (.ref D) = some (.type "type")) (h : subIn K (.ref C) (.ref D) = some b) : kitOne K (.ref C) (.ref D) = some b := by
  unfold kitOne
  by_cases e : ((.ref C : Value) == .ref D) = true
  · rw [if_pos e]
    have e2 : C = D := Value.ref.inj (beq_iff_eq.mp e)
    subst e2
    rw [sub_self x] at h
    exact h
  · rw [if_neg e]
    obtain ⟨cd, hc, _⟩ := any_some hd
    show (if ((clsIn K D).isSome && typeIn K (.ref D) == some (.type "type")) = true then subIn K (.ref C) (.ref D) else none) = some b
    rw [if_pos (by rw [hc, ht]; rfl)]
    exact h
theorem kit_typ {b : Bool} (h : subIn K (.ref C) (.type "ValueError") = some b) : kitOne K (.ref C) (.type "ValueError") = some b := by
  unfold kitOne
  rw [if_neg (fun z => by cases (beq_iff_eq.mp z))]
  show (if kitMeta "ValueError" = true then subIn K (.ref C) (.type "ValueError") else none) = some b
  rw [if_pos (by decide +kernel)]
  exact h
end
end RP
namespace RP
open PySem L2
def isL (t : Tr) : Bool := match data t with
  | some (.list _) => true
  | _ => false
def isS : Tr → Bool
  | .d (.str _) => true
  | _ => false
def dMeth (p : Tr → Bool) (g : List Tr → Option Tr) (fa fb : En → Rs Tr) : En → Rs Tr := fun en => (fa en).bind fun t => if p t then (fb en).bind fun u => Rs.of (g [t, u]) else .no
section
variable {K : PySem.W.Frag} {W : WW} {F H : Hp} {en : En} {σ : L2.St} {fa fb : En → Rs Tr}
theorem tm_meth {p : Tr → Bool} {g : List Tr → Option Tr} {r : V → List V → Hp → VK → Prop} {Ty : V → Hp → Prop} {Q : VK} (cc : COk K (fun vs H Q => ∃ x y, vs = [x, y] ∧ r x [y] H Q) g)
    (ty : ∀ (F : Hp) (O : Addr → Prop) (H : Hp) (t : Tr) (v : V) (f : List Addr), Wf F O H → RT K (gh F O H) H F t v f → p t = true → Ty v H)
    (h : tM K W (dMeth p g fa fb) σ H Q) : tM K W fa σ H fun x H1 => Ty x H1 ∧ tM K W fb σ H1 fun y H2 => r x [y] H2 Q := by
  obtain ⟨F, en, fp, O, S, h⟩ := h
  refine ⟨F, en, fp, O, S, ?_⟩
  unfold dMeth at h
  cases ea : fa en with
  | er c => rw [ea] at h; exact h
  | no => rw [ea] at h; exact h
  | ok t =>
    rw [ea] at h
    simp only [Rs.bind_ok'] at h
    intro v H1 ⟨e1, fq, nd, fr, rt⟩
    have S1 := S.add e1 fq fr (RT.own t v fq rt)
    by_cases hp : p t = true
    · rw [if_pos hp] at h
      refine ⟨ty F _ H1 t v fq S1.wf rt hp, F, en, fp, _, S1, ?_⟩
      cases eb : fb en with
      | er c => rw [eb] at h; exact fun H2 e2 => h H2 (e1.trans e2)
      | no => rw [eb] at h; exact h
      | ok u =>
        rw [eb] at h
        simp only [Rs.bind_ok'] at h
        intro y H2 ⟨e2, fq2, nd2, fr2, rt2⟩
        have S2 := S1.add e2 fq2 fr2 (RT.own u y fq2 rt2)
        cases eg : g [t, u] with
        | none => rw [eg] at h; exact h.elim
        | some z =>
          rw [eg] at h
          have hfr : ∀ a ∈ fq2, ¬ (O a ∨ a ∈ fq) := fun a ha => S1.fresh (fr2 a ha)
          have sh : ∀ a, (O a ∨ a ∈ fq ++ fq2) → ((O a ∨ a ∈ fq) ∨ a ∈ fq2) := fun a ha => ha.elim (fun q => .inl (.inl q)) fun q => (List.mem_append.mp q).elim (fun z => .inl (.inr z)) .inr
          have wf2 : Wf F (fun a => O a ∨ a ∈ fq ++ fq2) H2 := ⟨fun a ha => S2.own a (sh a ha), fun a ha => S2.nw a (sh a ha), S2.ex⟩
          have g1 : Exn (gh F (fun a => O a ∨ a ∈ fq) H1) (gh F (fun a => O a ∨ a ∈ fq ++ fq2) H2) := gh_mono (fun a o _ q => e2 a o q) fun a q => by
            rcases q with q | q
            · exact .inl (.inl q)
            · rcases List.mem_append.mp q with q | q
              · exact .inl (.inr q)
              · exact .inr (fr2 a q)
          have g2 : Exn (gh F (fun a => (O a ∨ a ∈ fq) ∨ a ∈ fq2) H2) (gh F (fun a => O a ∨ a ∈ fq ++ fq2) H2) := gh_mono (fun _ _ _ q => q) fun a q => by
            rcases q with q | q
            · exact .inl (.inl (.inl q))
            · rcases List.mem_append.mp q with q | q
              · exact .inl (.inl (.inr q))
              · exact .inl (.inr q)
          have rts : RTs K (gh F (fun a => O a ∨ a ∈ fq ++ fq2) H2) H2 F [t, u] [v, y] (fq ++ fq2) := ⟨v, [y], fq, fq2, rfl, rfl, RT.mono g1 e2 (Exn.refl _) t v fq rt, RTs.one (RT.mono g2 (Exn.refl _) (Exn.refl _) u y fq2 rt2)⟩
          have dis : (fq ++ fq2).Nodup := List.nodup_append.mpr ⟨nd, nd2, fun a ha b hb z => hfr b hb (.inr (by rw [← z]; exact ha))⟩
          have fresh : ∀ a ∈ fq ++ fq2, H a = none := fun a ha => (List.mem_append.mp ha).elim (fr a) fun q => e1.back (fr2 a q)
          obtain ⟨x', y', ev, q⟩ := cc F O H2 [t, u] [v, y] (fq ++ fq2) z Q wf2 dis (fun a ha => S.fresh (fresh a ha)) rts eg fun v' H' f ex nd' fr' rt' => h v' H' ⟨(e1.trans e2).trans ex, f, nd', fun a ha => (fr' a ha).elim (fresh a) fun q => (e1.trans e2).back q, rt'⟩
          cases ev
          exact q
    · rw [if_neg hp] at h
      exact h.elim
theorem ty_list {F : Hp} {O : Addr → Prop} {H : Hp} {t : Tr} {v : V} {f : List Addr} (wf : Wf F O H) (r : RT K (gh F O H) H F t v f) (h : isL t = true) : tyV K "list" v H := by
  unfold isL at h
  split at h
  · rename_i ds hd
    obtain ⟨a, vs, rfl, h1, _⟩ := RT.data gh_sub wf.ex t v f _ r hd
    exact .inl ⟨rfl, vs, .inl (.inl h1)⟩
  · cases h
theorem ty_str {F : Hp} {O : Addr → Prop} {H : Hp} {t : Tr} {v : V} {f : List Addr} (_ : Wf F O H) (r : RT K (gh F O H) H F t v f) (h : isS t = true) : ∃ a, v = .str a := by
  unfold isS at h
  split at h
  · exact ⟨_, r.2⟩
  · cases h
-- index
def gIndexD : List PyData → Option PyData
  | [.list ds, x] => if shk 40 x && shk 40 (.list ds) then (ds.findIdx? fun z => PyData.eqv z x).map fun j => .int (j : Nat) else none
  | _ => none
theorem c_index : COk K (fun vs H Q => ∃ x y, vs = [x, y] ∧ rIndexD K x [y] H Q) (gD gIndexD) := COk.ofD fun xs z vs H Q hg hr q => by
  unfold gIndexD at hg
  split at hg
  · rename_i ds x
    split at hg
    · rename_i hs
      rw [Bool.and_eq_true] at hs
      obtain ⟨j, hj, rfl⟩ := Option.map_eq_some_iff.mp hg
      obtain ⟨v, w, rfl, h1, h2⟩ := rps2 hr
      rw [List.findIdx?_eq_some_iff_getElem] at hj
      obtain ⟨k1, k2, k3⟩ := hj
      have h1' := h1
      obtain ⟨a, us, rfl, _, _⟩ := h1'
      refine ⟨.ref a, w, rfl, a, w, x, ds, j, ds[j], rfl, rfl, Rp.dp _ _ h1, Rp.dp x w h2, shk_shaped hs.2, shk_shaped hs.1, List.getElem?_eq_getElem k1, k2, fun m z' hm hz => ?_, q _ rfl⟩
      have hm2 : m < ds.length := by omega
      rw [List.getElem?_eq_getElem hm2] at hz
      cases hz
      have := k3 m hm
      simpa using this
    · cases hg
  · cases hg
-- split, join
def rSplit : V → List V → Hp → VK → Prop := fun x xs H Q => ∃ a b, x = .str a ∧ xs = [.str b] ∧ (b.length == 0) = false ∧ a.length + 2 ≤ sizeLine ∧ rNewStrs (Txt.split a b) H Q
def rJoin (K : PySem.W.Frag) : V → List V → Hp → VK → Prop := fun x xs H Q => ∃ a p, ∃ ys : List Str, x = .str a ∧ xs = [.ref p] ∧ (SqL K H p (ys.map V.str) ∨ SqT K H p (ys.map V.str)) ∧
      (ys.map (·.length)).sum + ys.length * a.length ≤ 16777216 ∧ Q (.str (Txt.join a ys)) H
theorem rps_strs {G : Hp} : ∀ ys : List Str, Rps G (ys.map .str) (ys.map V.str)
  | [] => rfl
  | y :: ys => ⟨_, _, rfl, rfl, rps_strs ys⟩
def gSplit : List Tr → Option Tr
  | [.d (.str a), .d (.str b)] => if (b.length == 0) = false ∧ a.length ≤ 99000 then some (.ol ((Txt.split a b).map fun y => .d (.str y))) else none
  | _ => none
theorem rts_strs {G H F : Hp} : ∀ ys : List Str, RTs K G H F (ys.map fun y => .d (.str y)) (ys.map V.str) []
  | [] => ⟨rfl, rfl⟩
  | y :: ys => ⟨_, _, [], [], rfl, rfl, ⟨rfl, rfl⟩, rts_strs ys⟩
theorem c_split : COk K (fun vs H Q => ∃ x y, vs = [x, y] ∧ rSplit x [y] H Q) gSplit := by
  intro F O H ts vs fq t Q wf nd fr rt hg out
  unfold gSplit at hg
  split at hg
  · rename_i a b
    obtain ⟨v, w, f, f', rfl, rfl, ⟨rfl, rfl⟩, ⟨rfl, rfl⟩⟩ := rts2 rt
    split at hg
    · rename_i hc
      cases hg
      refine ⟨_, _, rfl, a, b, rfl, rfl, hc.1, sz _ (by omega), fun p hp => ?_⟩
      exact out.lst wf nd (List.nil_sublist _) (rts_strs _) hp
    · cases hg
  · cases hg
def gJoinD : List PyData → Option PyData
  | [.str a, .list ds] => (strsD ds).bind fun ys => if (ys.map (·.length)).sum + ys.length * a.length ≤ 16777216 then some (.str (Txt.join a ys)) else none
  | _ => none
theorem c_join : COk K (fun vs H Q => ∃ x y, vs = [x, y] ∧ rJoin K x [y] H Q) (gD gJoinD) := COk.ofD fun xs z vs H Q hg hr q => by
  unfold gJoinD at hg
  split at hg
  · rename_i a ds
    obtain ⟨ys, hy, hg⟩ := Option.bind_eq_some_iff.mp hg
    split at hg
    · rename_i hc
      cases hg
      obtain ⟨v, w, rfl, h1, p, us, rfl, h2, h3⟩ := rps2 hr
      rw [strsD_rps hy h3] at h2
      exact ⟨v, _, rfl, a, p, ys, h1, rfl, .inl (.inl (.inl h2)), hc, q _ rfl⟩
    · cases hg
  · cases hg
end
section
variable {X : Cx} {W : WW} {o e : Expr} {fa fb : En → Rs Tr} {apos cpos : Pos} {k : Nat}
theorem sn_index (hr : Room k X.A) (ho : Snd X W o fa) (he : Snd X W e fb) (hbase : attributeBase o "index" X.env (eval o X.env) = eval o X.env := by rfl)
    (hfew : ((backTo cpos (starEach (e :: []) X.env)).all (fun x => !x.1) && (backToKw cpos (keywordEach [] X.env)).all (fun x => x.1.isSome)
      && decide ((e :: []).length + ([] : List Keyword).length + (if ([] : List Keyword).isEmpty then 0 else 1) < 30)) = true := by rfl)
    (hline : (apos.endLine == cpos.line) = true := by rfl) (hs : starEach (e :: []) X.env = (false, eval e X.env) :: starEach [] X.env := by rfl) (hplain : (backTo cpos (starEach [] X.env)).any (·.1) = false := by rfl) :
    Snd X W (.Call (.Attribute o "index" apos) [e] [] cpos) (dMeth isL (gD gIndexD) fa fb) :=
  pe_wk (pe_bm PySem.F.plainAttrs_list PySem.F.slot_list_index PySem.F.type_list_index (mt_indexD (units65 hr)) ho (pa_cons he pa_nil hs) hbase hfew hline hs hplain) fun σ H Q h => tm_meth c_index (fun _ _ _ _ _ _ => ty_list) h
theorem sn_split (ho : Snd X W o fa) (he : Snd X W e fb) (hs : starEach [e] X.env = [(false, eval e X.env)] := by rfl) (hbase : attributeBase o "split" X.env (eval o X.env) = eval o X.env := by rfl) (hline : (apos.endLine == cpos.line) = true := by rfl) :
    Snd X W (.Call (.Attribute o "split" apos) [e] [] cpos) (dMeth isS gSplit fa fb) := pe_wk (pe_split ho he hs hbase hline) fun σ H Q h => tm_meth (r := rSplit) c_split (fun _ _ _ _ _ _ => ty_str) h
theorem sn_join (ho : Snd X W o fa) (he : Snd X W e fb) (hs : starEach [e] X.env = [(false, eval e X.env)] := by rfl) (hbase : attributeBase o "join" X.env (eval o X.env) = eval o X.env := by rfl) (hline : (apos.endLine == cpos.line) = true := by rfl) :
    Snd X W (.Call (.Attribute o "join" apos) [e] [] cpos) (dMeth isS (gD gJoinD) fa fb) := pe_wk (pe_join ho he hs hbase hline) fun σ H Q h => tm_meth (r := rJoin X.K) c_join (fun _ _ _ _ _ _ => ty_str) h
@[simp] theorem e_meth {p : Tr → Bool} {g : List Tr → Option Tr} {en : En} : dMeth p g fa fb en = (fa en).bind fun t => if p t then (fb en).bind fun u => Rs.of (g [t, u]) else .no := Eq.trans rfl rfl
end
end RP
namespace PySem
section
variable {prog : Program} {w : World} {K : Type} [DecidableEq K] {knd : HeapKind prog w K} {A : Around} {E : Value → Shared → Prop} {s : Shared}
theorem wpAny_Dict_pairsA {env : Env} {keys : List (Option Expr)} {values : List Expr} {pos : Pos} {pairs : List (Sem Value × Sem Value)} {Q : Value → Shared → Prop} (hu : knd.room A)
    (hshape : (evalEachOpt keys env).zip ((evalEach values env).map fun v => do let x ← v; standAt pos; pure x) = pairs.map fun p => (some p.1, p.2)) (h0 : pairs ≠ []) (hlen : pairs.length ≤ 15)
    (h : wpAny (model prog w) A (evalPairs pairs) (fun vs s₁ => ∃ ps, CarriesH knd s₁.heap vs ps ∧ s₁.heap.DictOfH knd s.heap.objs.size [] ∧
      ∀ h' tk, h'.DictOfH knd s.heap.objs.size (storedAllH [] ps) → Heap.SameBut s.heap.objs.size s₁.heap h' → Q (.ref s.heap.objs.size) { s₁ with heap := h', toks := tk }) E
      { s with heap := s.heap.push { cls := .type "dict", data := .dict #[] } }) :
    wpAny (model prog w) A (eval (.Dict keys values pos) env) Q E s := by
  rw [arm_eval_Dict, hshape, dictDisplay_pairs pairs h0 (by omega)]
  exact wpAny_bind (wpAny_standAt (wpAny_bind (wpAny_subDictH (knd := knd) (Q := fun d s' => wpAny (model prog w) A (pure (Value.ref d)) Q E s') hu hlen
    (wpAny_mono h (fun vs s₁ h₁ => by obtain ⟨ps, hc, hm, hq⟩ := h₁; exact ⟨ps, hc, hm, fun h' tk a b => wpAny_pure (hq h' tk a b)⟩) fun _ _ e => e))))
end
end PySem
namespace RP
open PySem PySem.Spec L2

def tDispT (tk tv : TE) : TE := fun σ H Q => ∀ p, H p = none → tk σ (upd H p (.dT [])) fun x H1 => tv σ H1 fun y H2 => H2 p = some (.dT []) ∧ ∃ b k, x = .ref b ∧ H2 b = some (.tup (k.map kV)) ∧ Q (.ref p) (upd H2 p (.dT [(k, y)]))
theorem pe_dispT {X : Cx} {pos : Pos} {k v : Expr} {tk tv : TE} (hu : X.A.units + 1 < cLine) (hk : PE X k tk) (hv : PE X v tv) : PE X (.Dict [some k] [v] pos) (tDispT tk tv) := by
  refine ⟨fun pins s σ H Q I q => ?_⟩
  have hn := I.hok.fresh (Nat.le_refl s.heap.objs.size)
  have I1 := I.laid (a := s.heap.objs.size) (o := .dT []) (h' := s.heap.push { cls := .type "dict", data := .dict #[] }) (t' := s.toks) (fun _ _ q => Heap.get?_push_of_some _ q) (Nat.le_refl _) (dt_empty s.heap I.big)
  refine wpAny_Dict_pairsA (knd := tupleKind (mixKind X.prog X.w)) (pairs := pairTrees [some k] [v] X.env pos) (show X.A.units < cLine by omega) (zip_pairTrees _ _ _ _ rfl rfl) (by simp [pairTrees]) (by simp [pairTrees])
    (pairTrees_cons_walk (thn (hk.run pins _ σ _ _ I1 (q _ hn)) fun u s2 ⟨x, H1, I2, rx, q1⟩ => thn (hv.run pins s2 σ H1 _ I2 q1) fun w s3 ⟨y, H2, I3, ry, e, b, ks, ex, eb, q2⟩ => pairTrees_nil_walk ?_))
  subst ex
  cases (show u = Value.ref b from rx)
  obtain ⟨z, hd, xs, r0, dd⟩ := dt_of I3.hok e
  cases r0
  refine ⟨[(ks, b, w)], ⟨rfl, rfl, key_of I3.hok eb, trivial⟩, dd, fun h' tk' dd' hs => ⟨.ref s.heap.objs.size, _, ?_, rfl, q2⟩⟩
  have es : storedAllH [] [(ks, b, w)] = [(ks, b, w)] := by simp [storedAllH, storedH, atKey]
  rw [es] at dd'
  obtain ⟨q, es, ep, hq, h2, h3, h4, _, h5⟩ := dd'
  refine d_write I3 (by rw [e]; exact True.intro) hs ⟨q, hq⟩ ⟨by rw [sizeLine_eq]; show 1 ≤ _; omega, hd, _, .cons ⟨rfl, ?_, ry⟩ .nil, q, es, ep, hq, h2, h3, h4, h5⟩
  rw [upd_ne (ne_of eb e (fun z => nomatch z))]
  exact eb

def keysD : List PyData → Option (List Key)
  | [] => some []
  | .int i :: r => (keysD r).map fun ks => .inl i :: ks
  | .str s :: r => (keysD r).map fun ks => .inr s :: ks
  | _ :: _ => none
def keyT (t : Tr) : Option (List Key) := match data t with
  | some (.tuple ds) => keysD ds
  | _ => none
def valT : Tr → Option V
  | .d (.bool b) => some (.bl b)
  | .d (.int i) => some (.int i)
  | .d .none => some .non
  | .d (.str s) => some (.str s)
  | _ => none
def dtAt (en : En) (i : Nat) : Option (List (List Key × V)) := match en[i]? with
  | some (some (.dt kvs)) => some kvs
  | _ => none
theorem dtAt_some {en : En} {i : Nat} {kvs : List (List Key × V)} (h : dtAt en i = some kvs) : en[i]? = some (some (.dt kvs)) := by
  unfold dtAt at h
  split at h
  · rename_i k e; cases h; exact e
  · cases h
def dInDt (fa : En → Rs Tr) (i : Nat) : En → Rs Tr := fun en => (fa en).bind fun t => Rs.of ((keyT t).bind fun k => (dtAt en i).map fun kvs => .d (.bool (valV kvs k).isSome))
def dPutDt (i : Nat) (fk fv : En → Rs Tr) : DenS := fun en => onR (fv en) en fun u => onR (Rs.of (dtAt en i)) en fun kvs => onR (fk en) en fun t => onR (Rs.of (keyT t)) en fun k => onR (Rs.of (valT u)) en fun v =>
  if kvs.length < 100000 then .nx (en.set i (some (.dt (putK kvs k v)))) else .no
def dDict1 (fk fv : En → Rs Tr) : En → Rs Tr := fun en => (fk en).bind fun t => (fv en).bind fun u => Rs.of ((keyT t).bind fun k => (valT u).map fun v => .dt [(k, v)])

section
variable {K : PySem.W.Frag} {W : WW} {F H : Hp} {en : En} {σ : L2.St} {fa fk fv : En → Rs Tr} {O : Addr → Prop} {D : Ends}
theorem rps_keys {H : Hp} : ∀ {ds : List PyData} {vs : List V} {ks : List Key}, Rps H ds vs → keysD ds = some ks → vs = ks.map kV
  | [], vs, ks, h, e => by
    cases e
    exact h
  | d :: ds, _, ks, ⟨v, vs', rfl, h1, h2⟩, e => by
    cases d with
    | int i =>
      obtain ⟨ks', e', rfl⟩ := Option.map_eq_some_iff.mp (show (keysD ds).map _ = some ks from e)
      rw [rps_keys h2 e', show v = V.int i from h1]; rfl
    | str s =>
      obtain ⟨ks', e', rfl⟩ := Option.map_eq_some_iff.mp (show (keysD ds).map _ = some ks from e)
      rw [rps_keys h2 e', show v = V.str s from h1]; rfl
    | none => cases e
    | bool _ => cases e
    | list _ => cases e
    | tuple _ => cases e
    | dict _ => cases e
theorem key_at {t : Tr} {v : V} {f : List Addr} {k : List Key} (wf : Wf F O H) (r : RT K (gh F O H) H F t v f) (h : keyT t = some k) : ∃ b, v = .ref b ∧ H b = some (.tup (k.map kV)) := by
  unfold keyT at h
  split at h
  · rename_i ds hd
    obtain ⟨b, vs, rfl, hb, hs⟩ := RT.data gh_sub wf.ex t v f _ r hd
    exact ⟨b, rfl, by rw [hb, rps_keys hs h]⟩
  · cases h
theorem val_at {t : Tr} {v y : V} {f : List Addr} {G : Hp} (r : RT K G H F t v f) (h : valT t = some y) : v = y := by
  unfold valT at h
  split at h
  · cases h; exact r.2
  · cases h; exact r.2
  · cases h; exact r.2
  · cases h; exact r.2
  · cases h
theorem tm_inDt {i : Nat} {Q : VK} (h : tM K W (dInDt fa i) σ H Q) : tDIn (tM K W fa) (tVar i) σ H Q := by
  obtain ⟨F, en, fp, O, S, h⟩ := h
  refine ⟨F, en, fp, O, S, ?_⟩
  unfold dInDt at h
  cases ea : fa en with
  | er c => rw [ea] at h; exact h
  | no => rw [ea] at h; exact h
  | ok t =>
    rw [ea] at h
    simp only [Rs.bind_ok'] at h
    intro v H1 ⟨e1, fq, nd, fr, rt⟩
    have S1 := S.add e1 fq fr (RT.own t v fq rt)
    cases ek : keyT t with
    | none => rw [ek] at h; exact h.elim
    | some k =>
      rw [ek] at h
      cases ed : dtAt en i with
      | none => rw [ed] at h; exact h.elim
      | some kvs =>
        rw [ed] at h
        obtain ⟨b, rfl, hb⟩ := key_at S1.wf rt ek
        obtain ⟨x, hx, p, rfl, _, hp⟩ := S1.sl i _ (dtAt_some ed)
        exact ⟨.ref p, hx, p, _, rfl, DGet.t hp hb, Fin.dat h e1 rfl⟩
theorem ts_putDt {i : Nat} (h : tS K W (dPutDt i fk fv) D σ H) : sDPut (tVar i) (tM K W fk) (tM K W fv) D σ H := by
  obtain ⟨F, en, fp, O, S, h⟩ := h
  unfold dPutDt at h
  refine ⟨F, en, fp, O, S.toStt, ?_⟩
  cases ev : fv en with
  | er c => rw [ev] at h; exact fun H' e1 => h σ H' fp O (S.grow e1) (gh_grow e1)
  | no => rw [ev] at h; exact h
  | ok u =>
    rw [ev] at h
    simp only [onR_ok] at h
    intro y H1 ⟨e1, fq1, nd1, fr1, rt1⟩
    have S1 : StS K F en σ H1 fp O := S.grow e1
    cases ed : dtAt en i with
    | none => rw [ed] at h; exact h.elim
    | some kvs =>
      rw [ed] at h
      simp only [Rs.of_some, onR_ok] at h
      obtain ⟨x, hx, p, rfl, hfp, hp⟩ := S1.sl i _ (dtAt_some ed)
      refine ⟨.ref p, hx, F, en, fp, O, S1.toStt, ?_⟩
      cases ek : fk en with
      | er c => rw [ek] at h; exact fun H' e2 => h σ H' fp O (S1.grow e2) (gh_grow (e1.trans e2))
      | no => rw [ek] at h; exact h.elim
      | ok t =>
        rw [ek] at h
        simp only [onR_ok] at h
        intro w H2 ⟨e2, fq2, nd2, fr2, rt2⟩
        have S2 := S1.grow e2
        have e12 := e1.trans e2
        cases ekt : keyT t with
        | none => rw [ekt] at h; exact h.elim
        | some k =>
          rw [ekt] at h
          simp only [Rs.of_some, onR_ok] at h
          cases evt : valT u with
          | none => rw [evt] at h; exact h.elim
          | some v =>
            rw [evt] at h
            simp only [Rs.of_some, onR_ok] at h
            by_cases hl : kvs.length < 100000
            · rw [if_pos hl] at h
              obtain ⟨b, rfl, hb⟩ := key_at (S1.toStt.add e2 fq2 fr2 (RT.own t w fq2 rt2)).wf rt2 ekt
              obtain rfl := val_at rt1 evt
              have hp2 := e2 _ _ hp
              have hOp : O p := S.fo i p (by rw [hfp]; exact List.mem_singleton.mpr rfl)
              refine ⟨p, _, rfl, DPut.t hp2 hb (by rw [sizeLine_eq]; omega), h σ _ fp O ?_ ?_⟩
              · have g : Exn (gh F O H2) (gh F O (upd H2 p (.dT (putK kvs k y)))) := gh_mono (fun a o na q => by
                  rw [upd_ne (fun z => na (by rw [z]; exact hOp))]; exact q) fun a q => .inl q
                have x : Exn F (upd H2 p (.dT (putK kvs k y))) := fun a o q => by
                  rw [upd_ne (fun z => by rw [z, S.nw p hOp] at q; cases q)]; exact S2.ex a o q
                have hi : i < en.length := (List.getElem?_eq_some_iff.mp (dtAt_some ed)).1
                refine ⟨⟨by rw [List.length_set]; exact S2.len, fun j t' q => ?_, S2.nd, S2.dj, S2.fo, fun a q => ?_, S2.nw, x⟩, nv_set rfl S2.nv⟩
                · by_cases z : j = i
                  · subst z
                    rw [List.getElem?_set_self hi] at q
                    cases q
                    exact ⟨_, hx, p, rfl, hfp, upd_same⟩
                  · rw [List.getElem?_set_ne (Ne.symm z)] at q
                    obtain ⟨v', h1, h2⟩ := S2.sl j t' q
                    exact ⟨v', h1, RT.frame g t' v' _ (fun a ha => upd_ne fun y => z (S2.dj j i a ha (by rw [y, hfp]; exact List.mem_singleton.mpr rfl))) (S2.nv j t' q) h2⟩
                · by_cases z : a = p
                  · subst z; exact ⟨_, upd_same, .inr ⟨_, rfl⟩⟩
                  · rw [upd_ne z]; exact S2.own a q
              · exact gh_mono (fun a o na q => by
                  rw [upd_ne (fun z => na (by rw [z]; exact hOp))]; exact e12 _ _ q) fun a q => .inl q
            · rw [if_neg hl] at h
              exact h.elim
theorem tm_dict1 {Q : VK} (h : tM K W (dDict1 fk fv) σ H Q) : tDispT (tM K W fk) (tM K W fv) σ H Q := by
  obtain ⟨F, en, fp, O, S, h⟩ := h
  unfold dDict1 at h
  intro p hp
  have e0 : Exn H (upd H p (.dT [])) := Exn.new hp
  have S0 := S.add e0 [p] (fun a ha => by rw [List.mem_singleton.mp ha]; exact hp) (fun a ha => by rw [List.mem_singleton.mp ha]; exact ⟨_, upd_same, .inr ⟨_, rfl⟩⟩)
  refine ⟨F, en, fp, _, S0, ?_⟩
  cases ek : fk en with
  | er c => rw [ek] at h; exact fun H' e1 => h H' (e0.trans e1)
  | no => rw [ek] at h; exact h
  | ok t =>
    rw [ek] at h
    simp only [Rs.bind_ok'] at h
    intro x H1 ⟨e1, fq1, nd1, fr1, rt1⟩
    have S1 := S0.add e1 fq1 fr1 (RT.own t x fq1 rt1)
    refine ⟨F, en, fp, _, S1, ?_⟩
    cases ev : fv en with
    | er c => rw [ev] at h; exact fun H' e2 => h H' ((e0.trans e1).trans e2)
    | no => rw [ev] at h; exact h.elim
    | ok u =>
      rw [ev] at h
      simp only [Rs.bind_ok'] at h
      intro y H2 ⟨e2, fq2, nd2, fr2, rt2⟩
      cases ekt : keyT t with
      | none => rw [ekt] at h; exact h.elim
      | some k =>
        rw [ekt] at h
        simp only [Option.bind_some] at h
        cases evt : valT u with
        | none => rw [evt] at h; exact h.elim
        | some v =>
          rw [evt] at h
          obtain ⟨b, rfl, hb⟩ := key_at S1.wf rt1 ekt
          obtain rfl := val_at rt2 evt
          have hp2 : H2 p = some (.dT []) := e2 _ _ (e1 _ _ upd_same)
          refine ⟨hp2, b, k, rfl, e2 _ _ hb, h (.ref p) _ ⟨fun a o q => ?_, [p], List.nodup_cons.mpr ⟨fun z => (by cases z), List.nodup_nil⟩, fun a ha => by rw [List.mem_singleton.mp ha]; exact hp, p, rfl, rfl, upd_same⟩⟩
          rw [upd_ne (fun z => by rw [z, hp] at q; cases q)]
          exact e2 _ _ (e1 _ _ (e0 _ _ q))
end
section
variable {X : Cx} {W : WW} {k v a : Expr} {fa fk fv : En → Rs Tr} {x : Str} {pos p1 p2 : Pos}
theorem sn_dict1 {n : Nat} (hr : Room n X.A) (hk : Snd X W k fk) (hv : Snd X W v fv) : Snd X W (.Dict [some k] [v] pos) (dDict1 fk fv) := pe_wk (pe_dispT (by have := hr.un; omega) hk hv) fun _ _ _ h => tm_dict1 h
theorem sn_inDt {n i : Nat} (hr : Room n X.A) (ha : Snd X W a fa) (hb : PE X (.Name x p1) (tVar i)) : Snd X W (.Compare a [.In] [.Name x p1] pos) (dInDt fa i) := pe_wk (pe_cmp (pc_din (by have := hr.un; omega) ha hb) rfl) fun _ _ _ h => tm_inDt h
theorem st_inDt {n i : Nat} (hr : Room n X.A) (ha : Snd X W a fa) (hb : PE X (.Name x p1) (tVar i)) : SndT X W (.Compare a [.In] [.Name x p1] pos) (dB (dInDt fa i)) := pt_wk (pt_cmp (pc_din (by have := hr.un; omega) ha hb) rfl) fun _ _ _ h => tm_inDt (tb_of h)
theorem ss_putDt {n i : Nat} {spos : Pos} (hr : Room n X.A) (hb : PE X (.Name x p1) (tVar i)) (hk : Snd X W k fk) (hv : Snd X W v fv)
    (hs : swapsWith v (some (.Subscript (.Name x p1) k spos)) pos.line X.env = pure false := by rfl) : SndS X W (.Assign [.Subscript (.Name x p1) k spos] v pos) (dPutDt i fk fv) :=
  ps_wk (ps_dput (by have := hr.un; omega) hb hk hv hs) fun _ _ _ h => ts_putDt h
end
end RP
namespace RP
open PySem L2
open PySem.SeqAt (firstLt firstLt_yes firstLt_no RcLt)
theorem firstLt_lex : ∀ (ns ms : List Int) (e r : Nat → Bool) (k : Nat), (∀ j x y, ns[j]? = some x → ms[j]? = some y → e (k + j) = (x == y) ∧ r (k + j) = decide (x < y)) →
    firstLt e r (decide (ns.length < ms.length)) ((List.range (min ns.length ms.length)).map (k + ·)) = HT.lexLt ns ms
  | [], [], _, _, _, _ => rfl
  | [], _ :: _, _, _, _, _ => by
    simp [firstLt, HT.lexLt]
  | _ :: _, [], _, _, _, _ => by
    simp [firstLt, HT.lexLt]
  | x :: ns, y :: ms, e, r, k, h => by
    have h0 := h 0 x y rfl rfl
    have ih := firstLt_lex ns ms e r (k + 1) fun j a b h1 h2 => by
      have := h (j + 1) a b h1 h2
      rw [show k + 1 + j = k + (j + 1) by omega]
      exact this
    rw [List.length_cons, List.length_cons, show min (ns.length + 1) (ms.length + 1) = min ns.length ms.length + 1 by omega, List.range_succ_eq_map, List.map_cons, List.map_map,
      show (decide (ns.length + 1 < ms.length + 1)) = decide (ns.length < ms.length) by rw [Bool.eq_iff_iff, decide_eq_true_eq, decide_eq_true_eq]; omega,
      show ((k + ·) ∘ Nat.succ) = ((k + 1) + ·) from funext fun j => by show k + (j + 1) = k + 1 + j; omega]
    rw [HT.lexLt_cons]
    by_cases hxy : x = y
    · rw [if_pos hxy, firstLt_yes (by rw [h0.1, beq_iff_eq]; exact hxy), ih]
    · rw [if_neg hxy, firstLt_no (by rw [h0.1, beq_eq_false_iff_ne]; exact hxy), h0.2]
def rLtL (K : PySem.W.Frag) : R2 := fun x y H Q => ∃ a b ns ms, x = .ref a ∧ y = .ref b ∧ SqL K H a (ns.map V.int) ∧ SqL K H b (ms.map V.int) ∧ Q (.bl (HT.lexLt ns ms)) H
theorem op_ltL {X : Cx} (hu : X.A.units < cLine) : OpR X (compareOp .Lt) (rLtL X.K) := by
  intro pins s σ H x y v u Q I rx ry h
  obtain ⟨a, b, ns, ms, rfl, rfl, ha, hb, q⟩ := h
  cases rx
  cases ry
  obtain ⟨its, r1, p1, _⟩ := I.list ha
  obtain ⟨its2, r2, p2, _⟩ := I.list hb
  have l1 : its.toArray.size = ns.length := by rw [List.size_toArray, ← r1.length, List.length_map]
  have l2 : its2.toArray.size = ms.length := by rw [List.size_toArray, ← r2.length, List.length_map]
  have g1 : ∀ j (h1 : j < its.toArray.size), ∃ n t, ns[j]? = some n ∧ its.toArray[j] = .int n t := fun j h1 => by
    have hj : j < ns.length := by omega
    obtain ⟨u, hu, ru⟩ := r1.get (i := j) (x := .int ns[j]) (by rw [List.getElem?_map, List.getElem?_eq_getElem hj]; rfl)
    obtain ⟨t, rfl⟩ := ru
    refine ⟨ns[j], t, List.getElem?_eq_getElem hj, ?_⟩
    have := List.getElem?_eq_some_iff.mp hu
    simpa using this.2
  have g2 : ∀ j (h1 : j < its2.toArray.size), ∃ n t, ms[j]? = some n ∧ its2.toArray[j] = .int n t := fun j h1 => by
    have hj : j < ms.length := by omega
    obtain ⟨u, hu, ru⟩ := r2.get (i := j) (x := .int ms[j]) (by rw [List.getElem?_map, List.getElem?_eq_getElem hj]; rfl)
    obtain ⟨t, rfl⟩ := ru
    refine ⟨ms[j], t, List.getElem?_eq_getElem hj, ?_⟩
    have := List.getElem?_eq_some_iff.mp hu
    simpa using this.2
  have lt := RcLt.lists (A := X.A) (s := s) (e := fun j => (ns[j]?).getD 0 == (ms[j]?).getD 0) (r := fun j => decide ((ns[j]?).getD 0 < (ms[j]?).getD 0)) p1.isList p2.isList hu (fun j h1 h2 => by
    obtain ⟨n, t, e1, e2⟩ := g1 j h1
    obtain ⟨m, t', e3, e4⟩ := g2 j h2
    rw [e2, e4, e1, e3]
    exact PySem.SeqAt.EqAt.int_int n t m t') (fun j h1 h2 _ prog w E Q hq => by
    obtain ⟨n, t, e1, e2⟩ := g1 j h1
    obtain ⟨m, t', e3, e4⟩ := g2 j h2
    rw [e2, e4]
    rw [e1, e3] at hq
    exact PyProof.Rows.lt_int hq)
  have key := firstLt_lex ns ms (fun j => (ns[j]?).getD 0 == (ms[j]?).getD 0) (fun j => decide ((ns[j]?).getD 0 < (ms[j]?).getD 0)) 0 fun j x y h1 h2 => by
    rw [Nat.zero_add, h1, h2]
    exact ⟨rfl, rfl⟩
  have e0 : (List.range (min ns.length ms.length)).map (0 + ·) = List.range (min ns.length ms.length) := by
    rw [show ((0 + ·) : Nat → Nat) = id from funext fun j => Nat.zero_add j, List.map_id]
  rw [e0] at key
  rw [l1, l2, key] at lt
  exact lt X.prog X.w X.xe _ ⟨.bl (HT.lexLt ns ms), H, I, rfl, q⟩
def gLtLD : List PyData → Option PyData
  | [.list xs, .list ys] => (intsD xs).bind fun ns => (intsD ys).map fun ms => .bool (HT.lexLt ns ms)
  | _ => none
theorem c_ltL {K : PySem.W.Frag} : COk K (r2v (rLtL K)) (gD gLtLD) := COk.ofD fun xs z vs H Q hg hr q => by
  unfold gLtLD at hg
  split at hg
  · rename_i xs ys
    obtain ⟨ns, h1, hg⟩ := Option.bind_eq_some_iff.mp hg
    obtain ⟨ms, h2, rfl⟩ := Option.map_eq_some_iff.mp hg
    obtain ⟨v, w, rfl, ⟨a, us, rfl, s1, r1⟩, ⟨b, ws, rfl, s2, r2⟩⟩ := rps2 hr
    rw [intsD_rps h1 r1] at s1
    rw [intsD_rps h2 r2] at s2
    exact ⟨_, _, rfl, a, b, ns, ms, rfl, rfl, .inl (.inl s1), .inl (.inl s2), q _ rfl⟩
  · cases hg
abbrev gLtL := gD gLtLD
section
variable {X : Cx} {W : WW} {a b : Expr} {fa fb : En → Rs Tr} {pos : Pos} {k : Nat}
theorem sn_ltL (hr : Room k X.A) (ha : Snd X W a fa) (hb : Snd X W b fb) : Snd X W (.Compare a [.Lt] [b] pos) (dBin gLtL fa fb) := sn_cmp (op_ltL (by have := units65 hr; omega)) c_ltL ha hb (nomark _)
end
@[simp] theorem gLtLD_ints (ns ms : List Int) : gLtLD [.list (ns.map .int), .list (ms.map .int)] = some (.bool (HT.lexLt ns ms)) := by
  show ((intsD (ns.map .int)).bind fun ns => (intsD (ms.map .int)).map fun ms => PyData.bool (HT.lexLt ns ms)) = _
  rw [intsD_map, intsD_map]
  rfl
end RP
namespace RP
open PySem L2
section
variable {K : PySem.W.Frag} {W : WW} {F H H' H1 G G' G0 : Hp} {en en' : En} {σ : L2.St} {fp : Nat → List Addr} {O O' : Addr → Prop} {t : Tr} {v : V} {D : Ends}
def rowAt (en : En) (a : Nat × List Nat) : Option (List PyData) := match en[a.1]? with
  | some (some t) => match nodeT t a.2 with
    | some (.ol ts) => datas ts
    | _ => none
  | _ => none
def onD (t : Tr) (k : PyData → SR) : SR := match t with
  | .d x => k x
  | _ => .no
def dAli (i r : Nat) (fj fk fv : En → Rs Tr) : DenS := fun en => onR (pSub (pN i) fj en) en fun a =>
  onR (Rs.of (rowAt en a)) en fun xs => if r < en.length ∧ a.1 ≠ r then
    onR (fv (en.set r (some (.v (.list xs))))) (en.set r none) fun u => onD u fun x => onR (dI fk (en.set r (some (.v (.list xs))))) (en.set r none) fun k =>
      chg (en.set r none) a.1 a.2 (fun ts => (ixN ts.length k).map fun j => ts.set j (.d x))
    else .no
theorem StS.clear (S : StS K F en σ H fp O) (r : Nat) (w : Option V) : StS K F (en.set r none) (σ.set r w) H fp O := by
  have k : ∀ (i : Nat) (t : Tr), (en.set r none)[i]? = some (some t) → i ≠ r ∧ en[i]? = some (some t) := fun i t h => by
    by_cases e : i = r
    · subst e
      by_cases q : i < en.length
      · rw [List.getElem?_set_self q] at h; cases h
      · rw [List.getElem?_eq_none (by rw [List.length_set]; omega)] at h; cases h
    · rw [List.getElem?_set_ne (Ne.symm e)] at h
      exact ⟨e, h⟩
  refine ⟨⟨by rw [List.length_set, List.length_set]; exact S.len, fun i t h => ?_, S.nd, S.dj, S.fo, S.own, S.nw, S.ex⟩, fun i t h => S.nv i t (k i t h).2⟩
  obtain ⟨e, h'⟩ := k i t h
  obtain ⟨v, h1, h2⟩ := S.sl i t h'
  exact ⟨v, by rw [List.getElem?_set_ne (Ne.symm e)]; exact h1, h2⟩
theorem ts_ali {i r : Nat} {fj fk fv : En → Rs Tr} (h : tS K W (dAli i r fj fk fv) D σ H) :
    tSeq (tAsg (tPt K W (pSub (pN i) fj)) (gName r)) (tAsg (tM K W fv) (L2.gSub (tVar r) (tM K W fk) rSetL)) D σ H := by
  obtain ⟨F, en, fp, O, S, h⟩ := h
  unfold dAli at h
  refine ⟨F, en, fp, O, S, ?_⟩
  cases e : pSub (pN i) fj en with
  | er c => rw [e] at h; exact fun H' e1 => h σ H' fp O (S.grow e1) (gh_grow e1)
  | no => rw [e] at h; exact h
  | ok a =>
    obtain ⟨i', js⟩ := a
    rw [e] at h
    simp only [onR_ok] at h
    intro w v0 H1 x1 hv hp
    cases e1 : rowAt en (i', js) with
    | none => rw [e1] at h; exact h.elim
    | some xs =>
      rw [e1] at h
      have h : Po K W D F (gh F O H) (if r < en.length ∧ i' ≠ r then
        onR (fv (en.set r (some (.v (.list xs))))) (en.set r none) fun u => onD u fun x => onR (dI fk (en.set r (some (.v (.list xs))))) (en.set r none) fun k =>
          chg (en.set r none) i' js (fun ts => (ixN ts.length k).map fun j => ts.set j (.d x))
        else .no) := h
      split at h
      · rename_i hc
        obtain ⟨hr, hir⟩ := hc
        unfold rowAt at e1
        split at e1
        · rename_i t q1
          split at e1
          · rename_i ts q2
            have S1 := S.grow x1
            obtain ⟨p, vs, fps, rfl, hpv, rts, hl, pin⟩ := path_at S1 q1 hv q2 hp
            have rp : Rp H1 (.list xs) (.ref p) := ⟨p, vs, rfl, hpv, RTs.datas gh_sub S1.ex ts vs fps xs rts e1⟩
            have SA : StS K F (en.set r none) (σ.set r (some (.ref p))) H1 fp O := S1.clear r _
            have SB : Stt K F (en.set r (some (.v (.list xs)))) (σ.set r (some (.ref p))) H1 (fun k => if k = r then [] else fp k) O :=
              S1.toStt.put r [] List.nodup_nil (fun a ha => by cases ha) (fun k a _ ha => by cases ha) ⟨rfl, rp⟩ hr
            have g1 : Exn (gh F O H) (gh F O H1) := gh_grow x1
            have hσr : (σ.set r (some (V.ref p)))[r]? = some (some (.ref p)) := List.getElem?_set_self (by rw [S.len]; exact hr)
            have hσi : (σ.set r (some (V.ref p)))[i']? = some (some v0) := by rw [List.getElem?_set_ne (Ne.symm hir)]; exact hv
            refine ⟨F, _, _, O, SB, ?_⟩
            cases e2 : fv (en.set r (some (.v (.list xs)))) with
            | er c => rw [e2] at h; exact fun H' e' => h _ H' fp O (SA.grow e') (g1.trans (gh_grow e'))
            | no => rw [e2] at h; exact h
            | ok u =>
              rw [e2] at h
              simp only [onR_ok] at h
              cases u with
              | d x =>
                have h : Po K W D F (gh F O H) (onR (dI fk (en.set r (some (.v (.list xs))))) (en.set r none) fun k =>
                  chg (en.set r none) i' js (fun ts => (ixN ts.length k).map fun j => ts.set j (.d x))) := h
                intro y H2 ⟨x2, fq, nd, fr, rt⟩
                obtain ⟨rfl, rt⟩ := rt
                have x12 := x2
                have g2 : Exn (gh F O H1) (gh F O H2) := gh_grow x2
                refine ⟨.ref p, hσr, ?_⟩
                refine tm_int (SB.grow x2) ?_
                cases e3 : dI fk (en.set r (some (.v (.list xs)))) with
                | er c => rw [e3] at h; exact fun H3 x3 => h _ H3 fp O (SA.grow (x2.trans x3)) (g1.trans (gh_grow (x2.trans x3)))
                | no => rw [e3] at h; exact h.elim
                | ok k =>
                  rw [e3] at h
                  simp only [onR_ok] at h
                  intro H3 x3
                  have x23 := x2.trans x3
                  have S3 := SA.grow x23
                  have ry : RT K (gh F O H3) H3 F (.d x) y [] := by
                    refine RT.mono ?_ x3 (Exn.refl _) (.d x) y [] ⟨rfl, rt⟩
                    exact gh_mono (fun a o _ q => x3 a o q) fun a q => .inl (.inl q)
                  obtain ⟨p2, vs2, ts2, ts', y1, y2, y3, y4, y5⟩ := chg_ok (fq := []) (fv := fun vs => ((ixN vs.length k).map fun j => vs.set j y).getD vs) S3 h (g1.trans (gh_grow x23)) hσi (hp.mono x23 js) (fun a ha => by cases ha) (fun k a ha => by cases ha)
                    (fun p vs ts ts' fps G' ew np npq nd dis nts hg gG rts hl => by
                      obtain ⟨j2, hj2, rfl⟩ := Option.map_eq_some_iff.mp hg
                      rw [hl, hj2]
                      obtain ⟨f', a1, a2, a3⟩ := RTs.setOne rts (ixN_lt hj2) ry
                      have nts' := noVs_set (u := .d x) rfl j2 nts
                      refine ⟨nts', f', RTs.frame gG _ _ f' (fun a ha => upd_ne fun z => ?_) nts' a1, a3 nd List.nodup_nil dis, fun z => (a2 p z).elim np npq, a2⟩
                      subst z
                      exact (a2 a ha).elim np npq)
                  obtain ⟨j, hj, _⟩ := Option.map_eq_some_iff.mp y3
                  rw [y4, hj] at y5
                  exact ⟨p2, vs2, k, j, y1, rfl, y2, by rw [y4]; exact hj, y5⟩
              | _ => exact h.elim
          · cases e1
        · cases e1
      · exact h.elim
end
section
variable {X : Cx} {W : WW} {o b b2 e : Expr} {ss : List Stmt} {g : DenS} {fj fk fv : En → Rs Tr} {pos pos' pos2 spos rpos : Pos} {x : Str} {i r : Nat}
theorem sb_ali (hN : X.N.Nodup) (hi : X.N[r]? = some x) (hx : Loc X.env.scope x) (hf : X.fn x = true ∨ X.env.scope.names.lookup x = some .local := by first | exact .inl rfl | exact .inr rfl | assumption)
    (hp : SndP X W (.Subscript o b spos) (pSub (pN i) fj)) (hv : PE X (.Name x rpos) (tVar r)) (hk : Snd X W b2 fk) (he : Snd X W e fv) (rest : SndB X W ss g)
    (hs0 : swapsWith (.Subscript o b spos) (some (.Name x pos')) pos.line X.env = pure false := by rfl)
    (ha : ∀ v, assign (.Subscript (.Name x rpos) b2 spos2) X.env v = (do
      let ov ← holding [v] (eval (.Name x rpos) X.env)
      let iv ← holding [v, ov] (eval b2 X.env)
      standAt spos2
      holding [v, ov, iv] (setItem ov iv v)
      release [v, ov, iv] []) := by intro _; rfl)
    (hs : swapsWithSole [.Subscript (.Name x rpos) b2 spos2] e pos2.line X.env = pure false := by rfl) (hw : swappedStores [.Subscript (.Name x rpos) b2 spos2] e X.env = pure none := by rfl) :
    SndB X W (.Assign [.Name x pos'] (.Subscript o b spos) pos :: .Assign [.Subscript (.Name x rpos) b2 spos2] e pos2 :: ss) (dSeq (dAli i r fj fk fv) g) :=
  pss_wk (pss_cons (ps_set hN hi hx hp hs0 hf) (pss_cons (ps_asg he (pg_sub hv hk set_list ha) hs hw) rest)) fun D σ H h => by
    have h1 := ts_seq h
    exact ts_ali h1
end
end RP
namespace RT
open PySem PySem.Spec PyProof.Rows PySem.Calls PySem.W L2
theorem nolen_rt : typeLookup (.type "reversed") "__len__" = pure none := by rw [typeLookup_type, builtinLookup_eq_fast]; kernel_rfl
theorem slot_rt_hint : Slot "reversed" "__length_hint__" "reversed.__length_hint__" :=
  .of (owner := "reversed") (n := "__length_hint__") (by rw [typeLookup_type, builtinLookup_eq_fast]; kernel_rfl) (by decide +kernel) (by decide +kernel) (by decide +kernel)
    (by first | exact .inl (by decide +kernel) | exact .inr (by decide +kernel)) (by rw [isSubtype_type]; kernel_rfl)
theorem entry_rt_hint : entryFor table "reversed.__length_hint__" = some Builtin.«reversed.__length_hint__» := entryFor_of_tree (by kernel_rfl)
theorem args_rt_hint (a : Value) : argsOk "reversed.__length_hint__" ⟨[a], []⟩ := by
  unfold argsOk; rw [signature?_of (id := "reversed.__length_hint__") (n := ['_', '_', 't', 'n', 'i', 'h', '_', 'h', 't', 'g', 'n', 'e', 'l', '_', '_']) (o := ['d', 'e', 's', 'r', 'e', 'v', 'e', 'r']) (by kernel_rfl) owner_rt]; kernel_rfl
section
variable {prog : Program} {w : World} {A : Around} {E : Value → Shared → Prop} {s : Shared}
theorem call_rt_hint {it t : Addr} {items : Array Value} {Q : Value → Shared → Prop} (hit : IsRt s.heap it t ((items.size : Int) - 1)) (ht : IsTup s.heap t items) (hn : items.size ≤ sizeLine)
    (hQ : ∀ tok tk, s.toks ≤ tk → Q (.int (items.size : Int) tok) { s with toks := tk }) : wpAny (model prog w) A (call (.builtin "reversed.__length_hint__") [.ref it]) Q E s := by
  obtain ⟨o, ho, hc, hd⟩ := id hit
  refine wpAny_call_entry slot_rt_hint hit.typeIs entry_rt_hint ?_ (args_rt_hint _)
  unfold Builtin.«reversed.__length_hint__»
  refine wpAny_bind (wpAny_of_eq (a := Value.ref it) rfl ?_)
  refine wpAny_bind (wpAny_field ho hd (x := .ref t) rfl ?_)
  try dsimp only
  rw [if_neg (show ¬ ((Value.ref t == Value.none) = true) from Bool.false_ne_true)]
  refine wpAny_bind (len_tuple ht (by have := line63; omega) ?_)
  refine wpAny_bind (wpAny_of_eq (a := some ((items.size : Nat) : Int)) rfl ?_)
  try dsimp only
  refine wpAny_bind (wpAny_field (s := { s with toks := s.toks + 1 + 1 }) ho hd (x := rawInt ((items.size : Int) - 1)) rfl ?_)
  show wpAny _ _ (if ((items.size : Nat) : Int) < (items.size : Int) - 1 + 1 then _ else _) _ _ _
  rw [if_neg (by omega)]
  have e : (items.size : Int) - 1 + 1 = (items.size : Int) := by omega
  rw [e]
  unfold retInt
  refine wpAny_bind (wpAny_mkInt ?_)
  exact wpAny_pure ⟨_, rfl, hQ _ (s.toks + 1 + 1 + 1) (by omega)⟩
/-- whether the list makes room -/
theorem hint_rt {it t : Addr} {items : Array Value} {Q : Bool → Shared → Prop} (hit : IsRt s.heap it t ((items.size : Int) - 1)) (ht : IsTup s.heap t items) (hn : items.size ≤ sizeLine)
    (hQ : ∀ tk, s.toks ≤ tk → Q (items.size != 0) { s with toks := tk }) : wpAny (model prog w) A (Builtin.List.listLengthHint (.ref it)) Q E s := by
  have hT := hit.typeIs
  unfold Builtin.List.listLengthHint
  refine wpAny_bind (wpAny_specialOf hT nolen_rt ?_)
  show wpAny _ A ((specialOf (Value.ref it) (Str.ofString "__length_hint__")) >>= _) _ _ _
  refine wpAny_bind (wpAny_specialOf hT slot_rt_hint.lookup ?_)
  generalize hid : ("reversed.__length_hint__" : String) = id0
  wp_delta
  rw [show splitId id0 = some ("reversed", "__length_hint__") from by subst hid; decide +kernel]
  subst hid
  refine wpAny_bind (wpAny_isInstance (b := true) hT (by rw [isSubtype_type]; kernel_rfl) ?_)
  rw [if_neg (show ¬ ((!true) = true) from Bool.false_ne_true)]
  simp only []
  split
  · rename_i h
    exact absurd (h.symm.trans (show _ = false from by kernel_rfl)) (by decide)
  refine wpAny_bind (wpAny_rule ?_)
  refine wpAny_bind (wpAny_of_eq (slot_rt_hint.bind _) ?_)
  try dsimp only
  refine wpAny_bind (wpAny_attempt (call_rt_hint hit ht hn fun tok tk htk => ?_))
  have ha : asInt? (Value.int ((items.size : Nat) : Int) tok) = pure (some ((items.size : Nat) : Int)) := rfl
  simp only [ha, pure_bind]
  have hl := line63
  have f1 : Builtin.List.listFitsIndex ((items.size : Nat) : Int) = true := by
    unfold Builtin.List.listFitsIndex
    rw [Bool.and_eq_true, decide_eq_true_eq, decide_eq_true_eq]
    omega
  have f2 : Builtin.List.listTooLong ((items.size : Nat) : Int).toNat = false := by
    unfold Builtin.List.listTooLong
    rw [decide_eq_false_iff_not]
    omega
  rw [if_neg (by rw [f1]; exact Bool.false_ne_true), if_neg (by omega), if_neg (by rw [f2]; exact Bool.false_ne_true)]
  have e0 : (((items.size : Nat) : Int) != 0) = (items.size != 0) := by
    rw [Bool.eq_iff_iff, bne_iff_ne, bne_iff_ne]
    omega
  rw [e0]
  exact wpAny_pure (hQ tk htk)
theorem walks_rt (hh : A.handled = none) (I t : Addr) (hne : t ≠ I) (items : Array Value) (hn : items.size ≤ sizeLine) :
    Walks prog w A I [I, t] [I] items.size (fun i v => items[items.size - 1 - i]? = some v) (fun i h => i ≤ items.size ∧ IsRt h I t ((items.size : Int) - 1 - (i : Int)) ∧ IsTup h t items) where
  sub := fun b hb => by simp at hb; simp [hb]
  frame := fun _ _ _ x hk => ⟨x.1, x.2.1.at fun o e => hk I (by simp) o e, by
    obtain ⟨o, e, r⟩ := x.2.2
    exact ⟨o, hk t (by simp) o e, r⟩⟩
  item := fun i s Q E hi x hQ => by
    have e : (items.size : Int) - 1 - (i : Int) = ((items.size - 1 - i : Nat) : Int) := by omega
    have hit := x.2.1
    rw [e] at hit
    have hx : items[items.size - 1 - i]? = some (items[items.size - 1 - i]'(by omega)) := Array.getElem?_eq_getElem (by omega)
    refine next_rt_item hit x.2.2 hx hn fun h' hit' hs' => ?_
    have e2 : ((items.size - 1 - i : Nat) : Int) - 1 = (items.size : Int) - 1 - ((i + 1 : Nat) : Int) := by omega
    rw [e2] at hit'
    refine hQ _ h' (s.toks + 1) hx ⟨hi, hit', ?_⟩ fun b o hb eo => hs'.extBut b o (fun h => hb (by simp [h])) eo
    obtain ⟨o, eo, r⟩ := x.2.2
    exact ⟨o, (hs'.2 t hne).trans eo, r⟩
  done := fun s Q E x hQ => by
    have e : (items.size : Int) - 1 - (items.size : Int) = -1 := by omega
    have hit := x.2.1
    rw [e] at hit
    exact next_rt_end hh hit fun h' he' => hQ h' s.toks fun b o hb eo => he' b o (fun h => hb (by simp [h])) eo
  self := fun _ _ _ _ x hQ => iter_rt x.2.1 hQ
theorem collect_rt {it t : Addr} {items : Array Value} {Q : List Value → Shared → Prop} (hh : A.handled = none) (hit : IsRt s.heap it t ((items.size : Int) - 1)) (ht : IsTup s.heap t items) (hne : t ≠ it) (hn : items.size ≤ sizeLine)
    (hQ : ∀ (h' : Heap) (tk : Nat) (acc : Array Value), (∀ b o, b ≠ it → s.heap.get? b = some o → h'.get? b = some o) → ItemsOf (fun i v => items[items.size - 1 - i]? = some v) acc items.size → Q acc.toList { s with heap := h', toks := tk }) :
    wpAny (model prog w) A (collect (.ref it)) Q E s := by
  have W := (walks_rt (prog := prog) (w := w) (A := A.in1) hh it t hne items hn).toS
  obtain ⟨oi, hoi, _⟩ := id hit
  obtain ⟨ol, hol, _⟩ := id ht
  have hSi : s.heap.objs.size ≠ it := Nat.ne_of_gt (Heap.lt_size hoi)
  have hSl : s.heap.objs.size ≠ t := Nat.ne_of_gt (Heap.lt_size hol)
  have hSf : s.heap.objs.size ∉ [it, t] := by simp only [List.mem_cons, List.not_mem_nil, or_false, not_or]; exact ⟨hSi, hSl⟩
  unfold collect
  refine wpAny_bind (wpAny_runValue (codeAny_builtin F.entry_proto_collect ?_))
  rw [Around.under_plainId F.plain_proto_collect _]
  show wpAny _ A.in1 (newList [] >>= fun l' => again (.builtin "list.__iadd__" ⟨[l', .ref it], []⟩)) _ _ s
  refine wpAny_bind (wpAny_newObj_type ?_)
  refine wpAny_pure ⟨plainId_quiet F.plain_list_iadd _, codeAny_builtin F.entry_list_iadd ?_⟩
  rw [Around.under_plainId F.plain_list_iadd _]
  have hS₁ : (s.heap.push { cls := .type "list", data := .seq ([] : List Value).toArray }).get? s.heap.objs.size = some { cls := .type "list", data := .seq ([] : List Value).toArray } := Heap.get?_push_size _ rfl
  have old : ∀ b o, s.heap.get? b = some o → (s.heap.push { cls := .type "list", data := .seq ([] : List Value).toArray }).get? b = some o := fun b o e => Heap.get?_push_of_some _ e
  have hit1 : IsRt (s.heap.push { cls := .type "list", data := .seq ([] : List Value).toArray }) it t ((items.size : Int) - 1) := hit.at fun o e => old it o e
  have ht1 : IsTup (s.heap.push { cls := .type "list", data := .seq ([] : List Value).toArray }) t items := by
    obtain ⟨o, e, r⟩ := id ht
    exact ⟨o, old t o e, r⟩
  have hT : ({ s with heap := s.heap.push { cls := .type "list", data := .seq ([] : List Value).toArray } } : Shared).TypeIs (.ref it) "reversed" := IsRt.typeIs (s := { s with heap := s.heap.push { cls := .type "list", data := .seq ([] : List Value).toArray } }) hit1
  have h1 : Builtin.List.listSameRef (.ref s.heap.objs.size) (.ref it) = false := by simp [Builtin.List.listSameRef, hSi]
  show wpAny _ A.in1 (Builtin.List.listExtendWith (.ref s.heap.objs.size) (.ref it) (.ref s.heap.objs.size)) _ _ _
  unfold Builtin.List.listExtendWith
  refine wpAny_bind (wpAny_typeOf hT ?_)
  rw [if_neg (by rw [h1]; decide)]
  refine wpAny_bind (iter_rt (s := { s with heap := s.heap.push { cls := .type "list", data := .seq ([] : List Value).toArray } }) hit1 ?_)
  refine wpAny_bind (wpAny_holding ?_)
  refine hint_rt (s := { s with heap := s.heap.push { cls := .type "list", data := .seq ([] : List Value).toArray } }) hit1 ht1 hn fun tk htk => ?_
  have e0 : ((items.size : Nat) : Int) - 1 - ((0 : Nat) : Int) = (items.size : Int) - 1 := by omega
  split
  · refine wpAny_bind (wpAny_rule ?_)
    refine wpAny_bind ?_
    show wpAny _ A.in1 (updateSeq s.heap.objs.size (·.push .none) >>= fun _ => updateSeq s.heap.objs.size (·.pop)) _ _ _
    refine wpAny_bind (wpAny_updateSeq hS₁ rfl ?_)
    have hS₂ := Heap.get?_update_self (Obj.mapSeq (·.push Value.none)) hS₁ rfl
    refine wpAny_updateSeq hS₂ rfl ?_
    have hS₃ := Heap.get?_update_self (Obj.mapSeq (·.pop)) hS₂ rfl
    have oth : ∀ b o, b ≠ s.heap.objs.size → (s.heap.push { cls := .type "list", data := .seq ([] : List Value).toArray }).get? b = some o →
        (((s.heap.push { cls := .type "list", data := .seq ([] : List Value).toArray }).update s.heap.objs.size (Obj.mapSeq (·.push Value.none))).update s.heap.objs.size (Obj.mapSeq (·.pop))).get? b = some o :=
      fun b o hb e => (Heap.get?_update_other _ _ (Ne.symm hb)).trans ((Heap.get?_update_other _ _ (Ne.symm hb)).trans e)
    have ht3 : IsTup (((s.heap.push { cls := .type "list", data := .seq ([] : List Value).toArray }).update s.heap.objs.size (Obj.mapSeq (·.push Value.none))).update s.heap.objs.size (Obj.mapSeq (·.pop))) t items := by
      obtain ⟨o, e, r⟩ := id ht1
      exact ⟨o, oth t o (Ne.symm hSl) e, r⟩
    refine wpAny_pure ⟨plainId_quiet F.plain_extend_loop _, codeAny_extend_loopS W hn _ hSf _ items.size 0 _ _ _ rfl (Nat.zero_le _) ⟨Nat.zero_le _, by rw [e0]; exact hit1.at fun o e => oth it o (Ne.symm hSi) e, ht3⟩ hS₃ (ItemsOf.nil _) fun s' acc' c' hm hS' hacc => ?_⟩
    show wpAny _ A (load s.heap.objs.size >>= _) _ _ s'
    refine wpAny_bind (wpAny_load hS' ?_)
    refine wpAny_pure ?_
    rw [Moved.eq_with hm]
    refine hQ s'.heap s'.toks acc' (fun b o hb e => hm.heap b o (fun hmem => ?_) (oth b o (Nat.ne_of_lt (Heap.lt_size e)) (old b o e))) hacc
    rcases List.mem_cons.mp hmem with e' | hmem
    · exact absurd (Heap.lt_size e) (by rw [e']; exact Nat.lt_irrefl _)
    · exact hb (List.mem_singleton.mp hmem)
  · refine wpAny_pure ⟨plainId_quiet F.plain_extend_loop _, codeAny_extend_loopS W hn _ hSf _ items.size 0 _ _ _ rfl (Nat.zero_le _) ⟨Nat.zero_le _, by rw [e0]; exact hit1, ht1⟩ hS₁ (ItemsOf.nil _) fun s' acc' c' hm hS' hacc => ?_⟩
    show wpAny _ A (load s.heap.objs.size >>= _) _ _ s'
    refine wpAny_bind (wpAny_load hS' ?_)
    refine wpAny_pure ?_
    rw [Moved.eq_with hm]
    refine hQ s'.heap s'.toks acc' (fun b o hb e => hm.heap b o (fun hmem => ?_) (old b o e)) hacc
    rcases List.mem_cons.mp hmem with e' | hmem
    · exact absurd (Heap.lt_size e) (by rw [e']; exact Nat.lt_irrefl _)
    · exact hb (List.mem_singleton.mp hmem)
theorem code_tuple_new_rt {it t : Addr} {items : Array Value} {Q₁ : Value → Shared → Prop} (hh : A.handled = none) (hit : IsRt s.heap it t ((items.size : Int) - 1)) (ht : IsTup s.heap t items) (hne : t ≠ it) (hn : items.size ≤ sizeLine)
    (h : ∀ (h' : Heap) (tk : Nat) (acc : Array Value), (∀ b o, b ≠ it → s.heap.get? b = some o → h'.get? b = some o) → ItemsOf (fun i v => items[items.size - 1 - i]? = some v) acc items.size →
      Q₁ (.ref h'.objs.size) { s with heap := h'.push { cls := .type "tuple", data := .seq acc }, toks := tk }) :
    codeAny (model prog w) A (.call (.builtin "tuple.__new__") ⟨[.type "tuple", .ref it], []⟩) (wants Q₁ E) s := by
  refine codeAny_of_tree ?_
  show wpAny _ A.in1 (do checkBuiltinCall "tuple.__new__" ⟨[.type "tuple", .ref it], []⟩; again (.builtin "tuple.__new__" ⟨[.type "tuple", .ref it], []⟩)) _ _ s
  refine wpAny_bind (wpAny_of_eq (F.newCall_tuple_1 _) (wpAny_pure ⟨plainId_quiet F.plain_tuple_new _, codeAny_builtin F.entry_tuple_new ?_⟩))
  rw [Around.under_plainId F.plain_tuple_new _]
  have hsub := sub_tuple_self
  have hinit := init_tuple_lookup
  have hmh := madeHere_tuple
  have hTI : s.TypeIs (.ref it) "reversed" := hit.typeIs
  have hh1 : A.in1.handled = none := hh
  wp_walk using wpAny_typeOf hTI, collect_rt (A := A.in1) hh1 hit ht hne hn
  intro h' tk acc hk hacc
  show wpAny _ _ (Builtin.Tuple.tupleExact acc.toList.toArray >>= fun v => ret v) _ _ _
  unfold Builtin.Tuple.tupleExact
  refine wpAny_bind (wpAny_newObj_type ?_ (by show acc.toList.toArray.size ≤ sizeLine; simp only [Array.toArray_toList]; rw [hacc.1]; exact hn))
  refine wpAny_pure ?_
  have e : acc.toList.toArray = acc := by simp
  rw [e]
  exact h h' tk acc hk hacc
theorem call_tuple_rt {it t : Addr} {items : Array Value} {Q : Value → Shared → Prop} (hh : A.handled = none) (hit : IsRt s.heap it t ((items.size : Int) - 1)) (ht : IsTup s.heap t items) (hne : t ≠ it) (hn : items.size ≤ sizeLine)
    (hQ : ∀ (h' : Heap) (tk : Nat) (acc : Array Value), (∀ b o, b ≠ it → s.heap.get? b = some o → h'.get? b = some o) → ItemsOf (fun i v => items[items.size - 1 - i]? = some v) acc items.size →
      Q (.ref h'.objs.size) { s with heap := h'.push { cls := .type "tuple", data := .seq acc }, toks := tk }) :
    wpAny (model prog w) A (call (.type "tuple") [.ref it]) Q E s := by
  refine callType_codes (Q₁ := fun obj s₁ => s₁.TypeIs obj "tuple" ∧ Q obj s₁) F.called_tuple (F.typeCall_tuple_1 _) F.entry_object_init
    (code_tuple_new_rt (A := A.in1) hh hit ht hne hn fun h' tk acc hk hacc => ⟨⟨_, Heap.get?_push_size _ rfl, rfl⟩, hQ h' tk acc hk hacc⟩) fun obj s₁ h₁ => ?_
  exact ⟨h₁.1, F.args_object_init_2 obj _, object_init_meets F.called_tuple.init.lookup F.called_tuple.made (by decide) prog w A.in1 _ s₁ ⟨h₁.1, rfl, h₁.2⟩⟩
end
end RT
namespace RP
open PySem PySem.Spec PyProof.Rows PySem.Calls PySem.W L2
def tTupRevT (K : PySem.W.Frag) (te : TE) : TE := fun σ H Q => te σ H fun v H1 => ∃ (a : Addr) (xs : List V), v = .ref a ∧ SqT K H1 a xs ∧ ∀ q, H1 q = none → Q (.ref q) (upd H1 q (.tup xs.reverse))
section
variable {X : Cx}
theorem pe_tupRevT {e : Expr} {te : TE} {p p2 pos pos2 : Pos} (hc : X.calm = true) (hg : Gl X "tuple") (hm : X.mg "tuple" = none) (hg2 : Gl X "reversed") (hm2 : X.mg "reversed" = none) (he : PE X e te)
    (hs : starEach [e] X.env = (false, eval e X.env) :: starEach [] X.env := by rfl)
    (hs2 : starEach [.Call (.Name "reversed" p2) [e] [] pos2] X.env = (false, eval (.Call (.Name "reversed" p2) [e] [] pos2) X.env) :: starEach [] X.env := by rfl) :
    PE X (.Call (.Name "tuple" p) [.Call (.Name "reversed" p2) [e] [] pos2] [] pos) (tTupRevT X.K te) := by
  refine ⟨fun pins s σ H Q I h => ?_⟩
  refine Call_ (ld_blt I hg hm boot_tuple (PyProof.Rows.callWith_type1 (args_cons (Call_ (ld_blt I hg2 hm2 PyProof.Rows.boot_reversed (PyProof.Rows.callWith_type1 (args_cons (thn (he.run pins s σ H _ I h) fun u s1 ⟨v, H1, I1, r1, q1⟩ => args_nil ?_) hs) hs rfl))) hs2) hs2 rfl))
  obtain ⟨a, xs, ev, hq, q⟩ := q1
  subst ev
  obtain rfl : u = Value.ref a := r1
  obtain ⟨its, rv, p', hz⟩ := I1.tuple hq
  have hlz : its.toArray.size = xs.length := by rw [List.size_toArray, ← rv.length]
  refine RT.call_reversed_tup p' (fun A E Q k => len_tuple p' (by have := line63; rw [hlz]; omega) k) (args_nil ?_)
  have k0 : ∀ b o, s1.heap.get? b = some o → (s1.heap.push (RT.rtObj a ((its.toArray.size : Int) - 1))).get? b = some o := fun b o e => Heap.get?_push_of_some _ e
  have I2 : Inv X pins σ H1 { s1 with heap := s1.heap.push (RT.rtObj a ((its.toArray.size : Int) - 1)), toks := s1.toks + 1 + 1 } := I1.kept (t' := s1.toks + 1 + 1) k0
  obtain ⟨f0, f1, f2, f3, f4, f5⟩ := I1.fpOk (H' := H1) (b := s1.heap.objs.size) (Nat.le_refl _) (I1.hok.fresh (Nat.le_refl _))
  obtain ⟨ol, hol, hol2⟩ := id p'
  have hne : a ≠ s1.heap.objs.size := Nat.ne_of_lt (Heap.lt_size hol)
  have hn : its.toArray.size ≤ sizeLine := by rw [hlz]; exact hz
  refine RT.call_tuple_rt (s := { s1 with heap := s1.heap.push (RT.rtObj a ((its.toArray.size : Int) - 1)), toks := s1.toks + 1 + 1 }) (I1.ok.hd hc) ⟨_, Heap.get?_push_size _ rfl, rfl, rfl⟩ ⟨ol, k0 a ol hol, hol2⟩ hne hn fun h' tk acc hk hi => ?_
  have I3 : Inv X pins σ H1 { s1 with heap := h', toks := tk } := I2.turned (t' := tk) (fun b o hb e => hk b o hb e) f0 f1 f3 f4 f5
  refine ⟨.ref h'.objs.size, upd H1 h'.objs.size (.tup xs.reverse), I3.laid (t' := tk) (fun c o e => Heap.get?_push_of_some _ e) (Nat.le_refl _) (show ObjOk X.prog X.w _ _ _ (.tup xs.reverse) from ⟨by rw [List.length_reverse]; exact hz, acc.toList, RT.vals_rev rv hi, ?_⟩), rfl, q _ (I3.hok.fresh (Nat.le_refl _))⟩
  rw [Array.toArray_toList]
  exact IsTup.new _ _
end
def gRevT : List Tr → Option Tr
  | [t] => match kidsS t with
    | some (false, ks) => some (mkTp ks.reverse)
    | _ => none
  | _ => none
@[simp] theorem gRevT_d (xs : List PyData) : gRevT [.d (.tuple xs)] = some (.d (.tuple xs.reverse)) := by
  show some (mkTp (xs.map Tr.d).reverse) = _
  rw [← List.map_reverse, mkTp_map]
section
variable {X : Cx} {W : WW} {e : Expr} {fa : En → Rs Tr}
theorem sn_revT {p p2 pos pos2 : Pos} (hc : X.calm = true) (hg : Gl X "tuple") (hm : X.mg "tuple" = none) (hg2 : Gl X "reversed") (hm2 : X.mg "reversed" = none) (he : Snd X W e fa)
    (h1 : starEach [e] X.env = (false, eval e X.env) :: starEach [] X.env := by rfl)
    (h2 : starEach [.Call (.Name "reversed" p2) [e] [] pos2] X.env = (false, eval (.Call (.Name "reversed" p2) [e] [] pos2) X.env) :: starEach [] X.env := by rfl) :
    Snd X W (.Call (.Name "tuple" p) [.Call (.Name "reversed" p2) [e] [] pos2] [] pos) (dUn gRevT fa) :=
  pe_wk (pe_tupRevT hc hg hm hg2 hm2 he h1 h2) fun σ H Q h => by
    obtain ⟨F, en, fp, O, S, h⟩ := h
    refine ⟨F, en, fp, O, S, ?_⟩
    rw [e_un] at h
    cases q : fa en with
    | er c => rw [q] at h; exact h
    | no => rw [q] at h; exact h
    | ok t =>
      rw [q] at h
      simp only [Rs.bind_ok'] at h
      intro v H1 ⟨e1, fq, nd, fr, rt⟩
      have S1 := S.add e1 fq fr (RT.own t v fq rt)
      cases hk : kidsS t with
      | none => rw [show gRevT [t] = none by simp [gRevT, hk]] at h; exact h.elim
      | some bk =>
        obtain ⟨b, ks⟩ := bk
        cases b with
        | true => rw [show gRevT [t] = none by simp [gRevT, hk]] at h; exact h.elim
        | false =>
          rw [show gRevT [t] = some (mkTp ks.reverse) by simp [gRevT, hk]] at h
          obtain ⟨a, vs, f, rfl, _, h3, h4, h5⟩ := RT.kidsS S1.wf rt hk
          refine ⟨a, vs, rfl, h3 rfl, fun x hx => ?_⟩
          obtain ⟨f', a1, a2, a3⟩ := RTs.rev h4
          have ex : Exn H1 (upd H1 x (.tup vs.reverse)) := Exn.new hx
          have nx : ¬ (O x ∨ x ∈ fq) := S1.wf.fresh hx
          have sub : ∀ a ∈ f', a ∈ fq := fun a ha => h5.subset (a2 a ha)
          have nx' : ¬ (O x ∨ x ∈ f') := fun z => nx (z.imp id (sub x))
          refine h _ _ ⟨e1.trans ex, f', a3 (h5.nodup nd), fun a ha => fr a (sub a ha), RT.mkTp (RTs.mono (gh_mono (fun a o _ q => ex a o q) fun a q => ?_) ex (Exn.refl _) _ _ _ a1) (gh_tup upd_same nx')⟩
          rcases q with q | q
          · exact .inl (.inl q)
          · exact .inl (.inr (sub a q))
end
end RP
namespace RP
open PySem L2
def scal : PyData → Bool
  | .int _ => true
  | .none => true
  | _ => false
section
variable {K : PySem.W.Frag} {W : WW} {F H H' H1 G G' G0 : Hp} {en en' : En} {σ : L2.St} {fp : Nat → List Addr} {O O' : Addr → Prop} {t : Tr} {v : V} {D : Ends}
-- rows[row][col] = x
def put1D (i : Nat) (row col : Int) (x : PyData) : DenS := dPut (pSub (pN i) (dC (.int row))) (dC (.int col)) (dLift (dC x))
def putA (i : Nat) (side at_ : Int) : List PyData → Nat → DenS
  | [], _ => dNext
  | x :: xs, j => dSeq (put1D i (if side = 0 then at_ else (j : Int)) (if side = 0 then (j : Int) else at_) x) (putA i side at_ xs (j + 1))
theorem put1_eq {i : Nat} {row col : Int} {x : PyData} {ts : List Tr} (hx : scal x = true) (hi : en[i]? = some (some (.ol ts))) {rest : DenS} (h : Po K W D F G0 (andThen (put1D i row col x en) rest)) :
    ∃ r us, ixN ts.length row = some r ∧ r < ts.length ∧ ts[r]? = some (.ol us) ∧ ∃ en2, chg en i [r] (fun ts => (ixN ts.length col).map fun j => ts.set j (.d x)) = .nx en2 ∧ Po K W D F G0 (rest en2) := by
  unfold put1D dPut at h
  have e1 : (dLift (dC x)) en = .ok (.d x, en) := by
    cases x <;> first | rfl | cases hx
  rw [e1] at h
  simp only [onR_ok] at h
  have e0 : pN i en = .ok (i, []) := by unfold pN; rw [hi]
  have e2 : pSub (pN i) (dC (.int row)) en = match ixN ts.length row with
      | some j => if j < ts.length then .ok (i, [j]) else .no
      | none => .no := by
    unfold pSub
    rw [e0]
    show (match en[i]? with | some (some t) => _ | _ => _) = _
    rw [hi]
    rfl
  rw [e2] at h
  cases e3 : ixN ts.length row with
  | none => rw [e3] at h; exact h.elim
  | some r =>
    rw [e3] at h
    simp only at h
    by_cases hr : r < ts.length
    · rw [if_pos hr] at h
      simp only [onR_ok] at h
      have e4 : dI (dC (.int col)) en = .ok col := rfl
      rw [e4] at h
      simp only [onR_ok] at h
      rw [if_pos (show noV (Tr.d x) = true from rfl)] at h
      have hc : ∃ us en2, ts[r]? = some (.ol us) ∧ chg en i [r] (fun ts => (ixN ts.length col).map fun j => ts.set j (.d x)) = .nx en2 := by
        cases hq : chg en i [r] (fun ts => (ixN ts.length col).map fun j => ts.set j (.d x)) with
        | nx en2 =>
          obtain ⟨t, us, us', t', h1, h2, h3, h4, h5⟩ := chg_nx (K := K) (W := W) (F := F) (G0 := G0) (D := { D with nx := fun _ _ => True }) (show Po K W { D with nx := fun _ _ => True } F G0 (chg en i [r] (fun ts => (ixN ts.length col).map fun j => ts.set j (.d x))) by rw [hq]; exact fun _ _ _ _ _ _ => trivial)
          rw [hi] at h1
          cases h1
          have h2 : (ts[r]?).bind (fun u => nodeT u []) = some (.ol us) := h2
          obtain ⟨u, hu, h2⟩ := Option.bind_eq_some_iff.mp h2
          cases h2
          exact ⟨us, en2, hu, rfl⟩
        | rt t en' => rw [hq] at h; unfold chg at hq; repeat' (split at hq <;> try cases hq)
        | bk en' => unfold chg at hq; repeat' (split at hq <;> try cases hq)
        | ct en' => unfold chg at hq; repeat' (split at hq <;> try cases hq)
        | er c en' => unfold chg at hq; repeat' (split at hq <;> try cases hq)
        | no => rw [hq] at h; exact h.elim
      obtain ⟨us, en2, h5, h6⟩ := hc
      rw [h6] at h
      exact ⟨r, us, rfl, hr, h5, en2, h6, h⟩
    · rw [if_neg hr] at h; exact h.elim
-- where the row lies
theorem row_at {i r : Nat} {ts us : List Tr} {v0 : V} (S : StS K F en σ H fp O) (hi : en[i]? = some (some (.ol ts))) (hv : σ[i]? = some (some v0)) (hr : r < ts.length) (hu : ts[r]? = some (.ol us)) :
    ∃ p vs q ws, v0 = .ref p ∧ H p = some (.lst vs) ∧ vs.length = ts.length ∧ vs[r]? = some (.ref q) ∧ H q = some (.lst ws) ∧ ws.length = us.length := by
  obtain ⟨p, vs, fps, e1, h1, h2, h3, _⟩ := path_at S hi hv (js := []) (ts := ts) (w := v0) rfl rfl
  have hrv : r < vs.length := by omega
  have hp : VP H v0 [r] vs[r] := ⟨p, vs, vs[r], e1, .inl h1, List.getElem?_eq_getElem hrv, rfl⟩
  obtain ⟨q, ws, fps2, e2, h4, h5, h6, _⟩ := path_at S hi hv (js := [r]) (ts := us) (w := vs[r]) (by show (ts[r]?).bind (fun u => nodeT u []) = _; rw [hu]; rfl) hp
  exact ⟨p, vs, q, ws, e1, h1, h3, by rw [List.getElem?_eq_getElem hrv, e2], h4, h6⟩
-- one cell is put
theorem put_turn (W : WW) (D : Ends) {i r : Nat} {col : Int} {x : PyData} {ts us : List Tr} {v0 y : V} {q : Addr} {ws : List V} {en2 : En} (hx : scal x = true) (hy : Rp (gh F O H) x y) (S : StS K F en σ H fp O) (hi : en[i]? = some (some (.ol ts))) (hv : σ[i]? = some (some v0)) (hr : r < ts.length) (hu : ts[r]? = some (.ol us))
    (hp : VP H v0 [r] (.ref q)) (hq : H q = some (.lst ws)) (hc : chg en i [r] (fun ts => (ixN ts.length col).map fun j => ts.set j (.d x)) = .nx en2) :
    ∃ j, ixN ws.length col = some j ∧ ∃ fp2 O2, StS K F en2 σ (upd H q (.lst (ws.set j y))) fp2 O2 ∧ Exn (gh F O H) (gh F O2 (upd H q (.lst (ws.set j y)))) := by
  have ry : RT K (gh F O H) H F (.d x) y [] := ⟨rfl, hy⟩
  have P : Po K W { D with nx := fun σ2 H2 => ∃ fp2 O2, StS K F en2 σ2 H2 fp2 O2 ∧ Exn (gh F O H) (gh F O2 H2) } F (gh F O H) (chg en i [r] (fun ts => (ixN ts.length col).map fun j => ts.set j (.d x))) := by
    rw [hc]
    exact fun σ2 H2 fp2 O2 S2 g2 => ⟨fp2, O2, S2, g2⟩
  obtain ⟨p2, vs2, ts2, ts', y1, y2, y3, y4, y5⟩ := chg_ok (fq := []) (fv := fun vs => ((ixN vs.length col).map fun j => vs.set j y).getD vs) S P (Exn.refl _) hv hp (fun a ha => by cases ha) (fun k a ha => by cases ha)
    (fun p vs ts ts' fps G' ew np npq nd dis nts hg gG rts hl => by
      obtain ⟨j2, hj2, rfl⟩ := Option.map_eq_some_iff.mp hg
      rw [hl, hj2]
      obtain ⟨f', a1, a2, a3⟩ := RTs.setOne rts (ixN_lt hj2) ry
      have nts' := noVs_set (u := .d x) rfl j2 nts
      refine ⟨nts', f', RTs.frame gG _ _ f' (fun a ha => upd_ne fun z => ?_) nts' a1, a3 nd List.nodup_nil dis, fun z => (a2 p z).elim np npq, a2⟩
      subst z
      exact (a2 a ha).elim np npq)
  cases y1
  rw [hq] at y2
  cases y2
  obtain ⟨j, hj, _⟩ := Option.map_eq_some_iff.mp y3
  rw [← y4] at hj
  simp only [hj, Option.map_some, Option.getD_some] at y5
  exact ⟨j, hj, y5⟩
theorem rp_scal {G G' : Hp} {x : PyData} {y : V} (hx : scal x = true) (h : Rp G x y) : Rp G' x y := by
  cases x <;> first | exact h | cases hx
-- the body of such a def: def put(rows, side, at, sight), its loop's place in slot 4
def tPut1 (K : PySem.W.Frag) (W : WW) (a b : Nat) : TS := tAsg (tM K W (dBin gIdx (dVar 3) (dVar 4))) (L2.gSub (tOp (rIx K) (tVar 0) (tM K W (dVar a))) (tM K W (dVar b)) rSetL)
def tPutB (K : PySem.W.Frag) (W : WW) : TS := tFor (tI K W false (dRng1 (dUn gLen (dVar 3)))) (gName 4) (tIfS (tT K W (dB (dBin gEq (dVar 1) (dC (.int 0))))) (tPut1 K W 2 4) (tPut1 K W 4 2))
abbrev cEn (side at_ : Int) (xs : List PyData) (pl : Option Tr) : En := [none, some (.d (.int side)), some (.d (.int at_)), some (.d (.list xs)), pl]
abbrev cSt (v0 : V) (side at_ : Int) (vx : V) (pl : Option V) : L2.St := [some v0, some (.int side), some (.int at_), some vx, pl]
theorem callee_stt {c : Nat} {xs : List PyData} {vx : V} (S : StS K F en σ H fp O) (hc : en[c]? = some (some (.d (.list xs)))) (hx : σ[c]? = some (some vx)) (v0 : V) (side at_ : Int) (k : Option Int) (plv : Option V) (hpl : ∀ k', k = some k' → plv = some (.int k')) :
    Stt K F (cEn side at_ xs (k.map fun k => .d (.int k))) (cSt v0 side at_ vx plv) H (fun _ => []) O := by
  refine ⟨rfl, fun i t h => ?_, fun _ => List.nodup_nil, fun i j a h => (by cases h), fun i a h => (by cases h), S.own, S.nw, S.ex⟩
  match i, h with
  | 0, h => cases h
  | 1, h => cases h; exact ⟨_, rfl, rfl, rfl⟩
  | 2, h => cases h; exact ⟨_, rfl, rfl, rfl⟩
  | 3, h =>
    cases h
    obtain ⟨v, h1, h2, h3⟩ := S.sl c _ hc
    rw [hx] at h1
    cases h1
    exact ⟨vx, rfl, rfl, h3⟩
  | 4, h =>
    cases k with
    | none => cases h
    | some k =>
      cases h
      rw [hpl k rfl]
      exact ⟨_, rfl, rfl, rfl⟩
  | n + 5, h => cases h
theorem put_loop21 {i0 c : Nat} {side at_ : Int} {xs : List PyData} {vx v0 : V} {W2 : WW} {D2 : Ends} (hne : i0 ≠ c) (hsc : xs.all scal = true) (hrg : rgOk (xs.length : Int) = true) (hlen : xs.length ≤ 100000)
    (S : StS K F en σ H fp O) (hi : ∃ ts, en[i0]? = some (some (.ol ts))) (hc : en[c]? = some (some (.d (.list xs)))) (hv : σ[i0]? = some (some v0)) (hx : σ[c]? = some (some vx)) (P : Po K W D F (gh F O H) (putA i0 side at_ xs 0 en))
    (hD : ∀ σ' H', D.nx σ H' → D2.nx σ' H') : tPutB K W2 D2 (cSt v0 side at_ vx none) H := by
  have S0 := callee_stt S hc hx v0 side at_ none none (fun _ h => by cases h)
  refine ⟨F, _, _, O, S0, ?_⟩
  have eI : dRng1 (dUn gLen (dVar 3)) (cEn side at_ xs none) = .ok ((List.range xs.length).map fun (i : Nat) => .d (.int (0 + (i : Int)))) := by
    simp [hrg]
  show (match dRng1 (dUn gLen (dVar 3)) (cEn side at_ xs none) with | .ok its => _ | .er c => _ | .no => _)
  rw [eI]
  intro J H1 e1 it
  have g1 : Exn (gh F O H) (gh F O H1) := gh_grow e1
  refine ⟨fun j m σ2 H2 => ∃ pl en2 fp2 O2, σ2 = cSt v0 side at_ vx pl ∧ StS K F en2 σ H2 fp2 O2 ∧ Exn (gh F O H1) (gh F O2 H2) ∧ j ≤ xs.length ∧ m = xs.length - j ∧ en2[c]? = some (some (.d (.list xs))) ∧ (∃ ts, en2[i0]? = some (some (.ol ts))) ∧ Po K W D F (gh F O2 H2) (putA i0 side at_ (xs.drop j) j en2),
    ⟨_, none, en, fp, O, rfl, S.grow e1, Exn.refl _, Nat.zero_le _, rfl, hc, hi, by rw [List.drop_zero]; exact Po.later P g1⟩, fun j m σ2 H2 w => ?_⟩
  obtain ⟨pl, en2, fp2, O2, rfl, S2, g2, hj, rfl, hc2, ⟨ts, hi2⟩, p2⟩ := w
  obtain ⟨j1, j2, j3⟩ := it j O2 H2 S2.toStt.wf g2 nofun
  rw [List.length_map, List.length_range] at j1 j3
  by_cases hlt : j < xs.length
  · refine .inr ⟨j1 hlt, ?_⟩
    rw [List.drop_eq_getElem_cons hlt] at p2
    have hxs : scal xs[j] = true := List.all_eq_true.mp hsc _ (List.getElem_mem hlt)
    obtain ⟨r, us, hrow, hrl, hur, en3, hchg, p3⟩ := put1_eq hxs hi2 (rest := putA i0 side at_ (xs.drop (j + 1)) (j + 1)) p2
    obtain ⟨p, vs, q, ws, rfl, hpv, hvl, hvr, hqw, hwl⟩ := row_at S2 hi2 hv hrl hur
    -- what the change leaves
    have keep : en3[c]? = some (some (.d (.list xs))) ∧ ∃ ts, en3[i0]? = some (some (.ol ts)) := by
      unfold chg at hchg
      rw [hi2] at hchg
      have hn : nodeT (.ol ts) [r] = some (.ol us) := by show (ts[r]?).bind (fun u => nodeT u []) = _; rw [hur]; rfl
      simp only [hn] at hchg
      split at hchg
      · rename_i us' hus
        have hs : setN (.ol ts) [r] (.ol us') = some (.ol (ts.set r (.ol us'))) := by
          simp [setN, hrl, hur]
        simp only [hs] at hchg
        cases hchg
        refine ⟨by rw [List.getElem?_set_ne hne]; exact hc2, _, List.getElem?_set_self (List.getElem?_eq_some_iff.mp hi2).1⟩
      · cases hchg
    refine ⟨fun σ4 H4 => ∃ pl en4 fp4 O4, σ4 = cSt (.ref p) side at_ vx pl ∧ StS K F en4 σ H4 fp4 O4 ∧ Exn (gh F O H1) (gh F O4 H4) ∧ en4[c]? = some (some (.d (.list xs))) ∧ (∃ ts, en4[i0]? = some (some (.ol ts))) ∧ Po K W D F (gh F O4 H4) (putA i0 side at_ (xs.drop (j + 1)) (j + 1) en4), fun σ4 H4 n4 => ?_, fun x H3 y => ?_⟩
    · obtain ⟨pl4, en4, fp4, O4, h1, h2, h3, h4, h5, h6⟩ := n4
      exact ⟨xs.length - (j + 1), by omega, pl4, en4, fp4, O4, h1, h2, h3, by omega, rfl, h4, h5, h6⟩
    · have hit : ((List.range xs.length).map fun (i : Nat) => Tr.d (.int (0 + (i : Int))))[j]? = some (.d (.int (0 + (j : Int)))) := by
        rw [List.getElem?_map, List.getElem?_range hlt]; rfl
      obtain ⟨e3, rx, _⟩ := j2 _ hit x H3 y
      obtain ⟨_, rx⟩ := rx
      have rx : x = .int (0 + (j : Int)) := rx
      rw [Int.zero_add] at rx
      subst rx
      have S3 := S2.grow e3
      show tIfS _ _ _ _ (cSt (.ref p) side at_ vx (some (.int (j : Int)))) H3
      have SC := fun {H' : Hp} (e : Exn H3 H') => callee_stt (S3.grow e) hc2 hx (.ref p) side at_ (some (j : Int)) (some (.int (j : Int))) (fun k' h => by cases h; rfl)
      have atx : gIdx [Tr.d (.list xs), .d (.int (j : Int))] = some (.d xs[j]) := by
        show atI (xs.map Tr.d) (j : Int) = _
        rw [RP.atI_nat, List.getElem?_map, List.getElem?_eq_getElem hlt]; rfl
      -- one branch
      have turn : ∀ (a b : Nat) (row col : Int), row = (if side = 0 then at_ else (j : Int)) → col = (if side = 0 then (j : Int) else at_) → (dI (dVar a) (cEn side at_ xs (some (.d (.int (j : Int)))))) = .ok row → (dI (dVar b) (cEn side at_ xs (some (.d (.int (j : Int)))))) = .ok col → ∀ H4, Exn H3 H4 →
          tPut1 K W2 a b { D2 with nx := fun σ4 H4 => ∃ pl en4 fp4 O4, σ4 = cSt (.ref p) side at_ vx pl ∧ StS K F en4 σ H4 fp4 O4 ∧ Exn (gh F O H1) (gh F O4 H4) ∧ en4[c]? = some (some (.d (.list xs))) ∧ (∃ ts, en4[i0]? = some (some (.ol ts))) ∧ Po K W D F (gh F O4 H4) (putA i0 side at_ (xs.drop (j + 1)) (j + 1) en4), ct := fun σ4 H4 => ∃ pl en4 fp4 O4, σ4 = cSt (.ref p) side at_ vx pl ∧ StS K F en4 σ H4 fp4 O4 ∧ Exn (gh F O H1) (gh F O4 H4) ∧ en4[c]? = some (some (.d (.list xs))) ∧ (∃ ts, en4[i0]? = some (some (.ol ts))) ∧ Po K W D F (gh F O4 H4) (putA i0 side at_ (xs.drop (j + 1)) (j + 1) en4), bk := D2.nx } (cSt (.ref p) side at_ vx (some (.int (j : Int)))) H4 := fun a b row col hrow' hcol' ha hb H4 e4 => by
        have ex : (dBin gIdx (dVar 3) (dVar 4)) (cEn side at_ xs (some (.d (.int (j : Int))))) = .ok (.d xs[j]) := by
          simp [atx]
        refine ⟨F, _, _, O2, SC e4, ?_⟩
        show Fin K W2 F O2 _ H4 ((dBin gIdx (dVar 3) (dVar 4)) (cEn side at_ xs (some (.d (.int (j : Int)))))) _
        rw [ex]
        intro yv H5 ⟨e5, fq, nd, fr, rt⟩
        obtain ⟨rfl, rt⟩ := rt
        refine ⟨.ref p, rfl, ?_⟩
        refine tm_int (SC (e4.trans e5)) ?_
        rw [show dI (dVar a) (cEn side at_ xs ((some (j : Int)).map fun k => .d (.int k))) = .ok row from ha]
        intro H6 e6
        have e36 := (e4.trans e5).trans e6
        have e26 := e3.trans e36
        have hrow2 : ixN vs.length row = some r := by rw [hvl, hrow']; exact hrow
        refine .inl ⟨p, vs, row, .ref q, rfl, rfl, .inl (.inl (e26 _ _ hpv)), by unfold atI; rw [hrow2]; exact hvr, ?_⟩
        refine tm_int (SC e36) ?_
        rw [show dI (dVar b) (cEn side at_ xs ((some (j : Int)).map fun k => .d (.int k))) = .ok col from hb]
        intro H7 e7
        have e27 := e26.trans e7
        have S7 := S2.grow e27
        have hq7 := e27 _ _ hqw
        have hp7 : VP H7 (.ref p) [r] (.ref q) := ⟨p, vs, .ref q, rfl, .inl (e27 _ _ hpv), hvr, rfl⟩
        rw [← hcol'] at hchg
        obtain ⟨jj, hjj, fp8, O8, S8, g8⟩ := put_turn W D (y := yv) hxs (rp_scal hxs rt) S7 hi2 hv hrl hur hp7 hq7 hchg
        refine ⟨q, ws, col, jj, rfl, rfl, hq7, hjj, some (.int (j : Int)), en3, fp8, O8, rfl, S8, ?_, keep.1, keep.2, ?_⟩
        · exact g2.trans ((gh_grow e27).trans g8)
        · exact Po.later p3 ((gh_grow e27).trans g8)
      refine ⟨F, _, _, O2, SC (Exn.refl _), ?_⟩
      have et : (dB (dBin gEq (dVar 1) (dC (.int 0)))) (cEn side at_ xs ((some (j : Int)).map fun k => .d (.int k))) = .ok (decide (side = 0)) := by
        simp
      rw [et]
      intro H4 e4
      by_cases h0 : side = 0
      · rw [decide_eq_true h0, if_pos rfl]
        exact turn 2 4 _ _ rfl rfl (by rw [if_pos h0]; rfl) (by rw [if_pos h0]; rfl) H4 e4
      · rw [decide_eq_false h0, if_neg (by decide)]
        exact turn 4 2 _ _ rfl rfl (by rw [if_neg h0]; rfl) (by rw [if_neg h0]; rfl) H4 e4
  · have ej : j = xs.length := by omega
    subst ej
    refine .inl ⟨j3 (Nat.le_refl _), ?_⟩
    rw [List.drop_length] at p2
    exact hD _ _ (p2 σ H2 fp2 O2 S2 (Exn.refl _))
end
end RP
namespace RP
open PySem L2
abbrev nPut : List Str := ["rows", "side", "at", "sight", "place"]
def spPut (K : PySem.W.Frag) (cl : Str → Addr) : Sp := fun vs H Q E => vs.length = 4 ∧ tPutB K (wOf cl (fun c d _ H' => E c d H')) { nx := fun _ H' => Q .non H', rt := Q } (start nPut vs) H
def dPutCall (i a b c : Nat) : DenS := fun en => match en[i]?, en[a]?, en[b]?, en[c]? with
  | some (some (.ol _)), some (some (.d (.int side))), some (some (.d (.int at_))), some (some (.d (.list xs))) => if xs.all scal && rgOk (xs.length : Int) && decide (xs.length ≤ 100000) && decide (i ≠ c) then putA i side at_ xs 0 en else .no
  | _, _, _, _ => .no
section
variable {K : PySem.W.Frag} {W : WW} {H : Hp} {σ : L2.St} {D : Ends}
theorem ts_putcall {cl : Str → Addr} {i a b c : Nat} {E : L2.St → XK} (h : tS K W (dPutCall i a b c) D σ H) : tDrop (tCallS (spPut K cl) E (tCons (tVar i) (tCons (tVar a) (tCons (tVar b) (tCons (tVar c) tNil))))) D σ H := by
  obtain ⟨F, en, fp, O, S, h⟩ := h
  unfold dPutCall at h
  split at h
  · rename_i ts side at_ xs q1 q2 q3 q4
    split at h
    · rename_i hc
      simp only [Bool.and_eq_true, decide_eq_true_eq] at hc
      obtain ⟨⟨⟨c1, c2⟩, c3⟩, c4⟩ := hc
      obtain ⟨v0, h0, _⟩ := S.sl i _ q1
      obtain ⟨va, ha, _, ra⟩ := S.sl a _ q2
      obtain ⟨vb, hb, _, rb⟩ := S.sl b _ q3
      obtain ⟨vx, hx, _⟩ := S.sl c _ q4
      have ra : va = .int side := ra
      have rb : vb = .int at_ := rb
      subst ra rb
      refine ⟨v0, h0, _, ha, _, hb, vx, hx, rfl, ?_⟩
      exact put_loop21 (i0 := i) (c := c) c4 c1 c2 c3 S ⟨ts, q1⟩ q4 h0 hx h (fun σ' H' q => q)
    · exact h.elim
  · exact h.elim
end
def CalP (P : Program) (w : World) (K : PySem.W.Frag) (mg : Str → Option Value) (base : Heap) (cl : Str → Addr) (x : Str) (k : Nat) : Prop :=
  ∃ (f : Addr) (fd : FuncData) (ps : List Str), FnOk P w K mg base (L2.CX P w) k f fd ps (spPut K cl) ∧ mg x = some (.ref f) ∧ PySem.W.keepIn K (.ref f) = true ∧ Binds K fd ps []
section
variable {X : Cx} {Wx : WX} {cl : Str → Addr}
theorem ss_putcall {k k0 i a b c : Nat} {x : Str} {p pos spos : Pos} {e1 e2 e3 e4 : Expr} (cc : CalP X.prog X.w X.K X.mg X.base cl x k) (tk : Takes X Wx) (hr : Room k0 X.A) (hk : k ≤ k0) (hg : Gl X x)
    (h1 : PE X e1 (tVar i)) (h2 : PE X e2 (tVar a)) (h3 : PE X e3 (tVar b)) (h4 : PE X e4 (tVar c)) (hdb : (x == ("__debug__" : Str)) = false := by decide)
    (s1 : starEach [e1, e2, e3, e4] X.env = (false, eval e1 X.env) :: starEach [e2, e3, e4] X.env := by rfl) (s2 : starEach [e2, e3, e4] X.env = (false, eval e2 X.env) :: starEach [e3, e4] X.env := by rfl) (s3 : starEach [e3, e4] X.env = (false, eval e3 X.env) :: starEach [e4] X.env := by rfl) (s4 : starEach [e4] X.env = (false, eval e4 X.env) :: starEach [] X.env := by rfl)
    (hpl : (backTo pos (starEach [e2, e3, e4] X.env)).any (·.1) = false := by rfl) (hs : swapsWith (.Call (.Name x p) [e1, e2, e3, e4] [] pos) none spos.line X.env = pure false := by rfl) :
    SndS X (wOf cl Wx) (.Expr (.Call (.Name x p) [e1, e2, e3, e4] [] pos) spos) (dPutCall i a b c) := by
  obtain ⟨f, fd, ps, F, g1, g2, g3⟩ := cc
  exact ps_wk (ps_expr (pe_callS F (hr.mono hk) hg g1 g2 g3 (fun σ => passAt tk σ) (pa_cons h1 (pa_cons h2 (pa_cons h3 (pa_cons h4 pa_nil s4) s3) s2) s1) hdb s1 hpl) hs) fun _ _ _ h => ts_putcall h
end
section
variable {P : Program} {w : World} {K : PySem.W.Frag} {mg : Str → Option Value} {base : Heap} {cl : Str → Addr}
theorem fn_okP {x qual : Str} {st : Stmt} {f : Addr} {fd : FuncData} {ps : List Str} {k : Nat} (F : Fun K x qual st f fd) (S : FnScope nPut ps (defScope st)) (hp : ps.length = 4)
    (hb : ∀ (cdv : Value) (A : Around) (outer : List Env) (s : Shared) (H : Hp) (E : XK), Room k (A.deeper (PyProof.Rows.envOfC qual (defScope st) s.heap.objs.size f cdv)) →
      PSs (cxOf (L2.CX P w) P w K mg base nPut qual (defScope st) f cdv A outer s H E) (defBody st) (tPutB K (wOf cl (fun c d _ H' => E c d H')))) :
    FnOk P w K mg base (L2.CX P w) (k + 1) f fd ps (spPut K cl) :=
  F.okX S (fun vs H Q E h => h.1.trans hp.symm) fun cdv A outer s H vs Q E hr h => ⟨_, hb cdv A outer s H E hr, h.2⟩
theorem calP_of {x : Str} {st : Stmt} {f : Addr} {fd : FuncData} {ps : List Str} {k : Nat} (F : Fun K x x st f fd) (g : mg x = some (.ref f)) (b : Binds K fd ps []) (h : FnOk P w K mg base (L2.CX P w) k f fd ps (spPut K cl)) : CalP P w K mg base cl x k :=
  ⟨f, fd, ps, h, g, F.kp, b⟩
end
end RP
namespace RP
open PySem L2
abbrev pqD (p : Int × Int) : PyData := .tuple [.int p.1, .int p.2]
def leP (p q : Int × Int) : Bool := !SrtO.lexB q p
def sortP (ps : List (Int × Int)) : List (Int × Int) := ps.mergeSort leP
theorem sortP_perm (ps : List (Int × Int)) : (sortP ps).Perm ps := List.mergeSort_perm ps leP
theorem sortP_srtd (ps : List (Int × Int)) : (sortP ps).Pairwise fun p q => leP p q = true := List.pairwise_mergeSort (fun a b c h1 h2 => by
    unfold leP at *
    rw [Bool.not_eq_true', SrtO.lexB_no] at *
    omega) (fun a b => by
    unfold leP
    rw [Bool.or_eq_true, Bool.not_eq_true', Bool.not_eq_true', SrtO.lexB_no, SrtO.lexB_no]
    omega) ps
theorem leP_anti {p q : Int × Int} (h1 : leP p q = true) (h2 : leP q p = true) : p = q := by
  unfold leP at *
  rw [Bool.not_eq_true', SrtO.lexB_no] at *
  obtain ⟨a, b⟩ := p
  obtain ⟨c, d⟩ := q
  simp only [Prod.mk.injEq]
  simp only at h1 h2
  omega
theorem srt_uniq : ∀ {l m : List (Int × Int)}, l.Pairwise (fun p q => leP p q = true) → m.Pairwise (fun p q => leP p q = true) → l.Perm m → l = m
  | [], m, _, _, h => (List.nil_perm.mp h).symm
  | x :: l, m, h1, h2, h => by
    cases m with
    | nil => exact absurd h.length_eq (by simp)
    | cons y m =>
      have e : x = y := by
        have hx : x ∈ y :: m := h.mem_iff.mp List.mem_cons_self
        have hy : y ∈ x :: l := h.mem_iff.mpr List.mem_cons_self
        rcases List.mem_cons.mp hx with z | z
        · exact z
        · rcases List.mem_cons.mp hy with u | u
          · exact u.symm
          · exact leP_anti ((List.pairwise_cons.mp h1).1 y u) ((List.pairwise_cons.mp h2).1 x z)
      subst e
      rw [srt_uniq (List.pairwise_cons.mp h1).2 (List.pairwise_cons.mp h2).2 ((List.perm_cons x).mp h)]
def pairsT : List Tr → Option (List (Int × Int))
  | [] => some []
  | .d (.tuple [.int a, .int b]) :: ts => (pairsT ts).map fun ps => (a, b) :: ps
  | _ :: _ => none
theorem pairsT_eq : ∀ {ts : List Tr} {ps : List (Int × Int)}, pairsT ts = some ps → ts = ps.map fun p => .d (pqD p)
  | [], ps, h => by cases h; rfl
  | .d (.tuple [.int a, .int b]) :: ts, ps, h => by
    have h : (pairsT ts).map (fun ps => (a, b) :: ps) = some ps := h
    obtain ⟨qs, h1, rfl⟩ := Option.map_eq_some_iff.mp h
    rw [pairsT_eq h1]; rfl
  | t :: ts, ps, h => by
    unfold pairsT at h
    split at h
    · rename_i e
      cases e
    · rename_i a b ts' e
      cases e
      obtain ⟨qs, h1, rfl⟩ := Option.map_eq_some_iff.mp h
      rw [pairsT_eq h1]; rfl
    · cases h
@[simp] theorem pairsT_map (ps : List (Int × Int)) : pairsT (ps.map fun p => .d (pqD p)) = some ps := by
  induction ps with
  | nil => rfl
  | cons p ps ih =>
    show (pairsT (ps.map fun p => .d (pqD p))).map _ = _
    rw [ih]; rfl
def gSortP : List Tr → Option Tr
  | [.ol ts] => (pairsT ts).map fun ps => .ol ((sortP ps).map fun p => .d (pqD p))
  | _ => none
-- which pair a value is
def prOf (H : Hp) : V → Int × Int
  | .ref t => match H t with
    | some (.tup [.int a, .int b]) => (a, b)
    | _ => (0, 0)
  | _ => (0, 0)
theorem rts_pairs {K : PySem.W.Frag} {F H : Hp} {O : Addr → Prop} : ∀ {ps : List (Int × Int)} {vs : List V} {f : List Addr}, RTs K (gh F O H) H F (ps.map fun p => .d (pqD p)) vs f → Exn (gh F O H) H → f = [] ∧ vs.map (prOf H) = ps ∧ (∀ v ∈ vs, ∃ t, v = .ref t ∧ gh F O H t = some (.tup [.int (prOf H v).1, .int (prOf H v).2]))
  | [], vs, f, h, _ => by
    have h : vs = [] ∧ f = [] := h
    rw [h.1, h.2]
    exact ⟨rfl, rfl, fun v h => by cases h⟩
  | p :: ps, _, _, ⟨v, vs, f1, f2, rfl, rfl, ⟨e1, r1⟩, r2⟩, ex => by
    obtain ⟨rfl, h2, h3⟩ := rts_pairs r2 ex
    obtain ⟨t, us, rfl, g1, g2⟩ := r1
    obtain ⟨u1, us1, rfl, ru1, u2, us2, rfl, ru2, ru3⟩ := g2
    have ru1 : u1 = .int p.1 := ru1
    have ru2 : u2 = .int p.2 := ru2
    have ru3 : us2 = [] := ru3
    subst e1 ru1 ru2 ru3
    have hp : prOf H (.ref t) = p := by
      have := ex _ _ g1
      unfold prOf
      simp only [this]
    refine ⟨rfl, by rw [List.map_cons, hp, h2], fun w hw => ?_⟩
    rcases List.mem_cons.mp hw with rfl | hw
    · exact ⟨t, rfl, by rw [hp]; exact g1⟩
    · exact h3 w hw
theorem rts_of {K : PySem.W.Frag} {G H F : Hp} (k : V → Int × Int) : ∀ {vs : List V}, (∀ v ∈ vs, ∃ t, v = .ref t ∧ G t = some (.tup [.int (k v).1, .int (k v).2])) → RTs K G H F ((vs.map k).map fun p => .d (pqD p)) vs []
  | [], _ => ⟨rfl, rfl⟩
  | v :: vs, h => by
    obtain ⟨t, e, g⟩ := h v List.mem_cons_self
    exact ⟨v, vs, [], [], rfl, rfl, ⟨rfl, t, _, e, g, .int (k v).1, _, rfl, rfl, .int (k v).2, _, rfl, rfl, rfl⟩, rts_of k fun w hw => h w (List.mem_cons_of_mem _ hw)⟩
section
variable {X : Cx} {W : WW} {e : Expr} {fa : En → Rs Tr} {p pos : Pos}
theorem sn_sortP (hg : Gl X "sorted") (hm : X.mg "sorted" = none) (he : Snd X W e fa) (h1 : starEach [e] X.env = (false, eval e X.env) :: starEach [] X.env := by rfl) (hpl : (backTo pos (starEach [] X.env)).any (·.1) = false := by rfl) :
    Snd X W (.Call (.Name "sorted" p) [e] [] pos) (dUn gSortP fa) :=
  pe_wk (pe_callB cr_sortedPO hg hm PyProof.Rows.boot_sorted (pa_cons he pa_nil h1) (by decide) (by decide) h1 hpl) fun σ H Q h => by
    obtain ⟨F, en, fp, O, S, h⟩ := h
    refine ⟨F, en, fp, O, S, ?_⟩
    rw [e_un] at h
    cases q : fa en with
    | er c => rw [q] at h; exact h
    | no => rw [q] at h; exact h
    | ok t =>
      rw [q] at h
      simp only [Rs.bind_ok'] at h
      intro v H1 ⟨e1, fq, nd, fr, rt⟩
      have S1 := S.add e1 fq fr (RT.own t v fq rt)
      unfold gSortP at h
      split at h
      · rename_i ts heq
        cases heq
        cases hp : pairsT ts with
        | none => rw [hp] at h; exact h.elim
        | some ps =>
          rw [hp] at h
          obtain ⟨a, vs, f, rfl, hfq, h3, h4⟩ := rt
          rw [pairsT_eq hp] at h4
          obtain ⟨rfl, k1, k2⟩ := rts_pairs h4 gh_sub
          refine ⟨a, vs, prOf H1, rfl, .inl (.inl h3), fun x hx => ?_, fun ys r hs hb hr => ?_⟩
          · obtain ⟨t, e, g⟩ := k2 x hx
            exact ⟨t, e, gh_sub _ _ g⟩
          · have ex : Exn H1 (upd H1 r (.lst ys)) := Exn.new hr
            have nx : ¬ (O r ∨ r ∈ fq) := S1.wf.fresh hr
            have e2 : ys.map (prOf H1) = sortP ps := by
              refine srt_uniq ?_ (sortP_srtd ps) ?_
              · rw [List.pairwise_map]
                exact hs.imp fun z => by
                  show (!SrtO.lexB _ _) = true
                  rw [Bool.not_eq_true']
                  exact z
              · rw [← k1]
                exact (hb.perm.map _).trans (by rw [k1]; exact (sortP_perm ps).symm)
            refine h _ _ ⟨e1.trans ex, [r], List.nodup_cons.mpr ⟨by simp, List.nodup_nil⟩, fun b hb => by rw [List.mem_singleton.mp hb]; exact e1.back hr, r, ys, [], rfl, rfl, upd_same, ?_⟩
            rw [← e2]
            refine rts_of (prOf H1) fun y hy => ?_
            obtain ⟨t, e, g⟩ := k2 y (hb.perm.mem_iff.mp hy)
            refine ⟨t, e, ?_⟩
            have ht : gh F (fun a => O a ∨ a ∈ [r]) (upd H1 r (.lst ys)) t = some (.tup [.int (prOf H1 y).1, .int (prOf H1 y).2]) := by
              have gt : Exn (gh F (fun a => O a ∨ a ∈ fq) H1) (gh F (fun a => O a ∨ a ∈ [r]) (upd H1 r (.lst ys))) := gh_mono (fun a o _ q => ex a o q) fun a q => by
                rcases q with q | q
                · exact .inl (.inl q)
                · rw [List.mem_singleton.mp q]; exact .inr hr
              exact gt _ _ g
            exact ht
      · exact h.elim
end
/-! ### try .. except X: x = None -/
def dTryN (L : List Str) (i : Nat) (body : DenS) : DenS := fun en => match body en with
  | .er c en' => if L.contains c && decide (i < en'.length) then .nx (en'.set i (some (.d .none))) else .no
  | r => r
section
variable {K : PySem.W.Frag} {σ : L2.St} {H : Hp} {E : Ends}
theorem ts_tryN {cl : Str → Addr} {L : List Str} {i : Nat} {base : Value} {body : DenS} {Wout : WX} (ok : ∀ c ∈ L, PySem.W.exmOne K (.ref (cl c)) base = some true) (h : tS K (wOf cl Wout) (dTryN L i body) E σ H) :
    tS K (wOf cl (wOnly K base (fun _ _ _ => tAsg (tC .non) (gName i)) Wout E)) body E σ H := by
  obtain ⟨F, en, fp, O, S, h⟩ := h
  refine ⟨F, en, fp, O, S, ?_⟩
  unfold dTryN at h
  cases e : body en with
  | nx en' => rw [e] at h; exact h
  | rt t en' => rw [e] at h; exact h
  | bk en' => rw [e] at h; exact h
  | ct en' => rw [e] at h; exact h
  | no => rw [e] at h; exact h
  | er c en' =>
    rw [e] at h
    simp only at h
    by_cases hc : (L.contains c && decide (i < en'.length)) = true
    · rw [if_pos hc] at h
      simp only [Bool.and_eq_true, decide_eq_true_eq] at hc
      obtain ⟨h1, h2⟩ := hc
      have hL : c ∈ L := by simpa using h1
      intro σ' H' fp' O' S' g'
      refine ⟨true, ok c hL, fun _ a ha => ?_, fun z => by cases z⟩
      have S4 := S'.put (t := .d .none) (v := .non) i [] List.nodup_nil (fun _ z => by cases z) (fun _ _ _ z => by cases z) ⟨rfl, rfl⟩ h2 rfl
      exact h _ H' _ O' S4 g'
    · rw [if_neg hc] at h
      exact h.elim
end
section
variable {X : Cx} {x n : Str} {i : Nat} {body : List Stmt} {np pos pos' ppos p2 : Pos} {Wout : WX} {cl : Str → Addr} {L : List Str} {base : Value} {fb : DenS} {s₀ : Stmt}
theorem ss_tryN (L : List Str) (ok : ∀ c ∈ L, PySem.W.exmOne X.K (.ref (cl c)) base = some true) (hs : X.stack = X.env :: X.outer) (hf : X.env.frame = some X.env.locals) (hc : Names X x base) (tk : Takes X Wout)
    (hb : ∀ (W : WX) (pn : List (Addr × Obj)) (xe : Value → Shared → Prop), Takes (X.tr pn xe) W → PassesOwn (model X.prog X.w) X.A X.env xe → SndB (X.tr pn xe) (wOf cl W) body fb)
    (hsu : ∀ (a : Addr) (oe : Obj) (cls : Value) (d : Option Addr) (pn : List (Addr × Obj)), Zc cls d oe → (∃ vs, oe.data = .fields vs) → PSs (X.suite a ((a, oe) :: pn)) [s₀] (tAsg (tC .non) (gName i))) :
    SndS X (wOf cl Wout) (.Try body [.ExceptHandler (some (.Name x np)) none [s₀] pos'] [] [] pos) (dTryN L i fb) :=
  ps_wk (ps_try_only hs hf hc tk (tb := fun W => tS X.K (wOf cl W) fb) (ts := fun _ _ _ => tAsg (tC .non) (gName i)) hb hsu) fun _ _ _ h => ts_tryN ok h
end
end RP
namespace RP
open PySem L2
abbrev N0 : Hp := fun _ => none
-- lists of lists of scalars, owned
mutual
def sclT : Tr → Bool
  | .d x => scal x
  | .ol ts => sclTs ts
  | _ => false
def sclTs : List Tr → Bool
  | [] => true
  | t :: ts => sclT t && sclTs ts
end
mutual
theorem scl_move {K : PySem.W.Frag} {G G' H H' F F' : Hp} : ∀ (t : Tr) (v : V) (fp : List Addr), sclT t = true → (∀ a ∈ fp, H' a = H a) → RT K G H F t v fp → RT K G' H' F' t v fp
  | .d x, v, fp, s, _, ⟨e1, e2⟩ => ⟨e1, rp_scal s e2⟩
  | .ol ts, v, fp, s, k, ⟨p, vs, fps, e1, e2, e3, e4⟩ => ⟨p, vs, fps, e1, e2, by rw [k p (by rw [e2]; exact List.mem_cons_self)]; exact e3, scls_move ts vs fps s (fun a ha => k a (by rw [e2]; exact List.mem_cons_of_mem _ ha)) e4⟩
  | .e _, _, _, s, _, _ => by cases s
  | .v _, _, _, s, _, _ => by cases s
  | .s _, _, _, s, _, _ => by cases s
  | .dt _, _, _, s, _, _ => by cases s
  | .tp _, _, _, s, _, _ => by cases s
theorem scls_move {K : PySem.W.Frag} {G G' H H' F F' : Hp} : ∀ (ts : List Tr) (vs : List V) (fp : List Addr), sclTs ts = true → (∀ a ∈ fp, H' a = H a) → RTs K G H F ts vs fp → RTs K G' H' F' ts vs fp
  | [], _, _, _, _, e => e
  | t :: ts, _, _, s, k, ⟨v, vs', f1, f2, e1, e2, e3, e4⟩ => by
    have s' : (sclT t && sclTs ts) = true := s
    rw [Bool.and_eq_true] at s'
    exact ⟨v, vs', f1, f2, e1, e2, scl_move t v f1 s'.1 (fun a ha => k a (by rw [e2]; exact List.mem_append_left _ ha)) e3,
      scls_move ts vs' f2 s'.2 (fun a ha => k a (by rw [e2]; exact List.mem_append_right _ ha)) e4⟩
end
mutual
theorem scl_data : ∀ t : Tr, sclT t = true → ∃ x, data t = some x
  | .d x, _ => ⟨x, rfl⟩
  | .ol ts, s => by
    obtain ⟨xs, h⟩ := scls_data ts s
    exact ⟨.list xs, by show (datas ts).map _ = _; rw [h]; rfl⟩
  | .e _, s => by cases s
  | .v _, s => by cases s
  | .s _, s => by cases s
  | .dt _, s => by cases s
  | .tp _, s => by cases s
theorem scls_data : ∀ ts : List Tr, sclTs ts = true → ∃ xs, datas ts = some xs
  | [], _ => ⟨[], rfl⟩
  | t :: ts, s => by
    have s' : (sclT t && sclTs ts) = true := s
    rw [Bool.and_eq_true] at s'
    obtain ⟨x, hx⟩ := scl_data t s'.1
    obtain ⟨xs, hxs⟩ := scls_data ts s'.2
    exact ⟨x :: xs, by show ((data t).bind fun d => (datas ts).map fun ds => d :: ds) = _; rw [hx, hxs]; rfl⟩
end
theorem datas_len : ∀ {ts : List Tr} {xs : List PyData}, datas ts = some xs → xs.length = ts.length
  | [], xs, h => by cases h; rfl
  | t :: ts, xs, h => by
    have h : ((data t).bind fun d => (datas ts).map fun ds => d :: ds) = some xs := h
    obtain ⟨x, _, h2⟩ := Option.bind_eq_some_iff.mp h
    obtain ⟨ys, h3, rfl⟩ := Option.map_eq_some_iff.mp h2
    rw [List.length_cons, List.length_cons, datas_len h3]
theorem scls_app {a b : List Tr} (ha : sclTs a = true) (hb : sclTs b = true) : sclTs (a ++ b) = true := by
  induction a with
  | nil => exact hb
  | cons t a ih =>
    have h : (sclT t && sclTs a) = true := ha
    rw [Bool.and_eq_true] at h
    show (sclT t && sclTs (a ++ b)) = true
    rw [h.1, ih h.2]; rfl
/-! ### what it does -/
section
variable (dSh dNx dWt : Den) (bd : PyData)
def walkT (rec : Tr → List Tr → Option (PyData × List Tr)) (x : PyData) (r a : Int) : List Int → List PyData → List Tr → Option (List PyData × List Tr)
  | [], trees, pics => some (trees, pics)
  | k :: ks, trees, pics => if pics.length < 2 then (match dWt [mkE x, .d (.int r), .d (.int a), .d (.int k)] with
    | .ok t => if sclT t && clean t then (rec t pics).bind fun q => walkT rec x r a ks (trees ++ [q.1]) q.2 else none
    | _ => none) else walkT rec x r a ks trees pics
def walkD : Nat → Tr → List Tr → Option (PyData × List Tr)
  | 0, _, _ => none
  | n + 1, rows, pics => (data rows).bind fun x => match dSh [.d bd, mkE x] with
    | .ok (.d .none) => (match dNx [.d bd, mkE x] with
      | .ok (.d .none) => if pics.length < 100000 then some (.tuple [.str "picture"], pics ++ [rows]) else none
      | .ok (.d (.tuple [.int r, .int a])) => (walkT dWt (walkD n) x r a [0, 1] [] pics).map fun q => (.tuple (.str "try" :: .int r :: .int a :: q.1), q.2)
      | _ => none)
    | .ok (.d (.tuple ds)) => if lfs ds then some (.tuple ds, pics) else none
    | _ => none
end
theorem lfs_app {a b : List PyData} (ha : lfs a = true) (hb : lfs b = true) : lfs (a ++ b) = true := by
  induction a with
  | nil => exact hb
  | cons t a ih =>
    have h : (lf t && lfs a) = true := ha
    rw [Bool.and_eq_true] at h
    show (lf t && lfs (a ++ b)) = true
    rw [h.1, ih h.2]; rfl
theorem walkT_lf {dWt : Den} {rec : Tr → List Tr → Option (PyData × List Tr)} (hr : ∀ t pics q, sclT t = true → sclTs pics = true → rec t pics = some q → lf q.1 = true ∧ sclTs q.2 = true) {x : PyData} {r a : Int} : ∀ (ks : List Int) (trees : List PyData) (pics : List Tr) (q : List PyData × List Tr), lfs trees = true → sclTs pics = true → walkT dWt rec x r a ks trees pics = some q → lfs q.1 = true ∧ sclTs q.2 = true
  | [], trees, pics, q, h1, h2, h => by cases h; exact ⟨h1, h2⟩
  | k :: ks, trees, pics, q, h1, h2, h => by
    unfold walkT at h
    split at h
    · split at h
      · rename_i t _
        split at h
        · rename_i hc
          rw [Bool.and_eq_true] at hc
          obtain ⟨q1, h3, h4⟩ := Option.bind_eq_some_iff.mp h
          obtain ⟨g1, g2⟩ := hr t pics q1 hc.1 h2 h3
          exact walkT_lf hr ks _ _ q (lfs_app h1 (by show (lf q1.1 && true) = true; rw [g1]; rfl)) g2 h4
        · cases h
      · cases h
    · exact walkT_lf hr ks trees pics q h1 h2 h
theorem walkD_lf {dSh dNx dWt : Den} {bd : PyData} : ∀ (n : Nat) (rows : Tr) (pics : List Tr) (q : PyData × List Tr), sclT rows = true → sclTs pics = true → walkD dSh dNx dWt bd n rows pics = some q → lf q.1 = true ∧ sclTs q.2 = true
  | 0, _, _, _, _, _, h => by cases h
  | n + 1, rows, pics, q, hs, hp, h => by
    unfold walkD at h
    obtain ⟨x, hx, h⟩ := Option.bind_eq_some_iff.mp h
    split at h
    · split at h
      · split at h
        · cases h
          exact ⟨rfl, scls_app hp (by show (sclT rows && true) = true; rw [hs]; rfl)⟩
        · cases h
      · obtain ⟨q1, h1, rfl⟩ := Option.map_eq_some_iff.mp h
        obtain ⟨g1, g2⟩ := walkT_lf (fun t pics q => walkD_lf n t pics q) _ _ _ q1 rfl hp h1
        exact ⟨g1, g2⟩
      · cases h
    · split at h
      · rename_i hl
        cases h
        exact ⟨hl, hp⟩
      · cases h
    · cases h
/-! ### its state -/
def noP (p : Addr) (H : Hp) : Hp := fun a => if a = p then none else H a
theorem noP_ex (p : Addr) (H : Hp) : Exn (noP p H) H := fun a o h => by
  unfold noP at h
  split at h
  · cases h
  · exact h
structure WS (K : PySem.W.Frag) (bd : PyData) (rows : Tr) (pics : List Tr) (vb vr : V) (p : Addr) (acc : List V) (fr fps : List Addr) (H : Hp) : Prop where
  lb : lf bd = true
  rb : Rp H bd vb
  sr : sclT rows = true
  rr : RT K N0 H N0 rows vr fr
  hp : H p = some (.lst acc)
  sp : sclTs pics = true
  rp : RTs K N0 H N0 pics acc fps
  nd : (p :: (fr ++ fps)).Nodup
-- all but p stays
def Exp (p : Addr) (H H' : Hp) : Prop := ∀ a o, a ≠ p → H a = some o → H' a = some o
def spW (dSh dNx dWt : Den) (K : PySem.W.Frag) (n : Nat) : Sp := fun vs H Q _ => ∃ bd rows pics vb vr p acc fr fps, vs = [vb, vr, .ref p] ∧ WS K bd rows pics vb vr p acc fr fps H ∧ match walkD dSh dNx dWt bd n rows pics with
  | none => False
  | some (tree, pics') => ∀ v H' acc' fps', Exp p H H' → H' p = some (.lst acc') → RTs K N0 H' N0 pics' acc' fps' → (p :: fps').Nodup → (∀ a ∈ fps', a ∈ fr ∨ a ∈ fps ∨ H a = none) → Rp H' tree v → Q v H'
section
variable {K : PySem.W.Frag} {bd : PyData} {rows : Tr} {pics : List Tr} {vb vr : V} {p : Addr} {acc : List V} {fr fps : List Addr} {H H' : Hp}
theorem WS.p_lst (S : WS K bd rows pics vb vr p acc fr fps H) : ∀ xs, H p ≠ some (.tup xs) := fun xs h => by rw [S.hp] at h; cases h
theorem WS.is (S : WS K bd rows pics vb vr p acc fr fps H) {a : Addr} (ha : a ∈ p :: (fr ++ fps)) : ∃ o, H a = some o ∧ IsOwn o := by
  rcases List.mem_cons.mp ha with rfl | ha
  · exact ⟨_, S.hp, .inl ⟨_, rfl⟩⟩
  · rcases List.mem_append.mp ha with h | h
    · exact RT.own rows vr fr S.rr a h
    · exact RTs.own pics acc fps S.rp a h
theorem WS.chg (S : WS K bd rows pics vb vr p acc fr fps H) (ht : ∀ a xs, H a = some (.tup xs) → H' a = some (.tup xs)) (hk : ∀ a ∈ p :: (fr ++ fps), H' a = H a) : WS K bd rows pics vb vr p acc fr fps H' :=
  ⟨S.lb, Rp.tups ht bd vb S.lb S.rb, S.sr, scl_move rows vr fr S.sr (fun a ha => hk a (List.mem_cons_of_mem _ (List.mem_append_left _ ha))) S.rr, by rw [hk p List.mem_cons_self]; exact S.hp, S.sp,
    scls_move pics acc fps S.sp (fun a ha => hk a (List.mem_cons_of_mem _ (List.mem_append_right _ ha))) S.rp, S.nd⟩
theorem WS.grow (S : WS K bd rows pics vb vr p acc fr fps H) (e : Exn H H') : WS K bd rows pics vb vr p acc fr fps H' := S.chg (fun a xs h => e _ _ h) fun a ha => by
  obtain ⟨o, h, _⟩ := S.is ha
  rw [e _ _ h, h]
theorem WS.gtup (S : WS K bd rows pics vb vr p acc fr fps H) {a : Addr} {xs : List V} (h : H a = some (.tup xs)) : gh (noP p H) (fun a => a = p) H a = some (.tup xs) := gh_tup h fun z => by subst z; exact S.p_lst xs h
-- the slots as an expression sees them
abbrev wEn4 (bd x : PyData) (ds : List PyData) (t3 t4 t5 t6 : Option Tr) : En := [some (.d bd), some (mkE x), some (.v (.list ds)), t3, t4, t5, t6]
abbrev wSt4 (vb vr : V) (p : Addr) (u3 u4 u5 u6 : Option V) : L2.St := [some vb, some vr, some (.ref p), u3, u4, u5, u6]
def SlOk (H : Hp) (t : Option Tr) (u : Option V) : Prop := ∀ t', t = some t' → ∃ s v, u = some v ∧ Rp H s v ∧ ((t' = .d s ∧ lf s = true) ∨ t' = .v s)
theorem SlOk.none {H : Hp} {u : Option V} : SlOk H none u := fun t h => by cases h
theorem SlOk.d {H : Hp} {s : PyData} {v : V} (h : Rp H s v) (l : lf s = true) : SlOk H (some (.d s)) (some v) := fun t e => by cases e; exact ⟨s, v, rfl, h, .inl ⟨rfl, l⟩⟩
theorem SlOk.v {H : Hp} {s : PyData} {v : V} (h : Rp H s v) : SlOk H (some (.v s)) (some v) := fun t e => by cases e; exact ⟨s, v, rfl, h, .inr rfl⟩
theorem SlOk.rt {F : Hp} {O : Addr → Prop} {t : Option Tr} {u : Option V} (h : SlOk H t u) (tp : ∀ a xs, H a = some (.tup xs) → gh F O H a = some (.tup xs)) (t' : Tr) (e : t = some t') : ∃ v, u = some v ∧ RT K (gh F O H) H F t' v [] := by
  obtain ⟨s, v, e1, r, h⟩ := h t' e
  refine ⟨v, e1, ?_⟩
  rcases h with ⟨rfl, l⟩ | rfl
  · exact ⟨rfl, Rp.tups tp s v l r⟩
  · exact ⟨rfl, r⟩
theorem WS.stt (S : WS K bd rows pics vb vr p acc fr fps H) {x : PyData} {ds : List PyData} (hx : data rows = some x) (hd : datas pics = some ds) {t3 t4 t5 t6 : Option Tr} {u3 u4 u5 u6 : Option V} (h3 : SlOk H t3 u3) (h4 : SlOk H t4 u4) (h5 : SlOk H t5 u5) (h6 : SlOk H t6 u6) :
    Stt K (noP p H) (wEn4 bd x ds t3 t4 t5 t6) (wSt4 vb vr p u3 u4 u5 u6) H (fun _ => []) (fun a => a = p) := by
  have tp : ∀ a xs, H a = some (.tup xs) → gh (noP p H) (fun a => a = p) H a = some (.tup xs) := fun a xs h => S.gtup h
  refine ⟨rfl, fun i t h => ?_, fun _ => List.nodup_nil, fun i j a h => (by cases h), fun i a h => (by cases h), fun a h => ?_, fun a h => ?_, noP_ex p H⟩
  · match i, h with
    | 0, h => cases h; exact ⟨vb, rfl, rfl, Rp.tups tp bd vb S.lb S.rb⟩
    | 1, h =>
      cases h
      refine ⟨vr, rfl, RT.mkE (RT.data (fun a o h => by cases h) (fun a o h => by cases h) rows vr fr x (scl_move (F' := N0) (G' := N0) rows vr fr S.sr (fun a ha => ?_) S.rr) hx) (fun a xs h => tp a xs (noP_ex p H _ _ h))⟩
      have hne : a ≠ p := fun z => (List.nodup_cons.mp S.nd).1 (by rw [← z]; exact List.mem_append_left _ ha)
      unfold noP
      rw [if_neg hne]
    | 2, h =>
      cases h
      exact ⟨.ref p, rfl, rfl, p, acc, rfl, S.hp, RTs.datas (fun a o h => by cases h) (fun a o h => by cases h) pics acc fps ds S.rp hd⟩
    | 3, h =>
      obtain ⟨v, e, r⟩ := SlOk.rt (K := K) h3 tp t (Option.some.inj h)
      exact ⟨v, congrArg some e, r⟩
    | 4, h =>
      obtain ⟨v, e, r⟩ := SlOk.rt (K := K) h4 tp t (Option.some.inj h)
      exact ⟨v, congrArg some e, r⟩
    | 5, h =>
      obtain ⟨v, e, r⟩ := SlOk.rt (K := K) h5 tp t (Option.some.inj h)
      exact ⟨v, congrArg some e, r⟩
    | 6, h =>
      obtain ⟨v, e, r⟩ := SlOk.rt (K := K) h6 tp t (Option.some.inj h)
      exact ⟨v, congrArg some e, r⟩
    | n + 7, h => cases h
  · subst h; exact ⟨_, S.hp, .inl ⟨_, rfl⟩⟩
  · subst h; unfold noP; rw [if_pos rfl]
end
end RP
namespace RP
open PySem L2
def fTwo (d : Den) : En → Rs Tr := dCall d (dCons (dVar 0) (dCons (dVar 1) dNil))
def cSh : En → Rs Bool := dB (dBin (gD (gIsN true)) (dVar 3) (dC .none))
def cNx : En → Rs Bool := dB (dBin (gD (gIsN false)) (dVar 4) (dC .none))
def fPic : En → Rs Tr := dPr gTup (dCons (dC (.str "picture")) dNil)
def fEmp : En → Rs Tr := dPr gLst dNil
def fRng2 : En → Rs (List Tr) := dRng1 (dC (.int 2))
def cLt2 : En → Rs Bool := dB (dBin gLt (dUn gLen (dVar 2)) (dC (.int 2)))
def fWt (d : Den) : En → Rs Tr := dCall d (dCons (dVar 1) (dCons (dBin gIdx (dVar 4) (dC (.int 0))) (dCons (dBin gIdx (dVar 4) (dC (.int 1))) (dCons (dVar 6) dNil))))
def fEnd : En → Rs Tr := dBin gAdd (dPr gTup (dCons (dC (.str "try")) (dCons (dBin gIdx (dVar 4) (dC (.int 0))) (dCons (dBin gIdx (dVar 4) (dC (.int 1))) dNil)))) (dUn gTuple (dVar 5))
def tWkL (K : PySem.W.Frag) (W : WW) (dWt : Den) (sp : Sp) (E : L2.St → XK) : TS := tIfS (tT K W cLt2) (tDrop (tBM K "list" rAppend (tVar 5) (tCons (tCallS sp E (tCons (tVar 0) (tCons (tM K W (fWt dWt)) (tCons (tVar 2) tNil)))) tNil))) tNext
def tWkF (K : PySem.W.Frag) (W : WW) (dWt : Den) (sp : Sp) (E : L2.St → XK) : TS := tFor (tI K W false fRng2) (gName 6) (tWkL K W dWt sp E)
def tWk (K : PySem.W.Frag) (W : WW) (dSh dNx dWt : Den) (sp : Sp) (E : L2.St → XK) : TS :=
  tSeq (tAsg (tM K W (fTwo dSh)) (gName 3)) (tSeq (tIfS (tT K W cSh) (tRet (tVar 3)) tNext)
  (tSeq (tAsg (tM K W (fTwo dNx)) (gName 4)) (tSeq (tIfS (tT K W cNx) (tSeq (tDrop (tBM K "list" rAppend (tVar 2) (tCons (tVar 1) tNil))) (tRet (tM K W fPic))) tNext)
  (tSeq (tAsg (tM K W fEmp) (gName 5)) (tSeq (tWkF K W dWt sp E) (tRet (tM K W fEnd)))))))
section
variable {K : PySem.W.Frag} {W : WW} {dSh dNx dWt : Den} {E : L2.St → XK} {bd x : PyData} {rows : Tr} {pics : List Tr} {vb vr : V} {p : Addr} {acc : List V} {fr fps : List Addr} {H H' : Hp} {D : Ends}
def Exp2 (p q : Addr) (H H' : Hp) : Prop := ∀ a o, a ≠ p → a ≠ q → H a = some o → H' a = some o
@[simp] theorem data_mkE (x : PyData) : data (mkE x) = some x := by unfold mkE; split <;> rfl
@[simp] theorem mkE_argT (x : PyData) : argT (mkE x) = some (mkE x) := by
  by_cases h : lf x = true
  · rw [show mkE x = .d x from if_pos h, argT_d, show mkE x = .d x from if_pos h]
  · rw [show mkE x = .e x from if_neg h, argT_e, show mkE x = .e x from if_neg h]
@[simp] theorem lend_mkE (x : PyData) : lend (mkE x) = .ok (mkE x) := by unfold mkE; split <;> rfl
theorem fTwo_eq (d : Den) {ds : List PyData} {t3 t4 t5 t6 : Option Tr} (l : lf bd = true) : fTwo d (wEn4 bd x ds t3 t4 t5 t6) = d [.d bd, mkE x] := by
  unfold fTwo
  have e : mkE bd = .d bd := if_pos l
  simp [e]
theorem fWt_eq (d : Den) {ds : List PyData} {t3 t5 : Option Tr} {r a k : Int} : fWt d (wEn4 bd x ds t3 (some (.d (.tuple [.int r, .int a]))) t5 (some (.d (.int k)))) = d [mkE x, .d (.int r), .d (.int a), .d (.int k)] := by
  unfold fWt
  have g0 : gIdx [.d (.tuple [.int r, .int a]), .d (.int 0)] = some (.d (.int r)) := rfl
  have g1 : gIdx [.d (.tuple [.int r, .int a]), .d (.int 1)] = some (.d (.int a)) := rfl
  simp [g0, g1]
theorem mkV_lfs {xs : List PyData} (h : lfs xs = true) : xs.map mkV = xs.map Tr.d := by
  induction xs with
  | nil => rfl
  | cons a xs ih =>
    have h : (lf a && lfs xs) = true := h
    rw [Bool.and_eq_true] at h
    rw [List.map_cons, List.map_cons, ih h.2]
    unfold mkV
    rw [if_pos h.1]
theorem fEnd_eq {ds trees : List PyData} {t3 t6 : Option Tr} {r a : Int} (h : lfs trees = true) (hl : trees.length ≤ 2) : fEnd (wEn4 bd x ds t3 (some (.d (.tuple [.int r, .int a]))) (some (.v (.list trees))) t6) = .ok (.d (.tuple (.str "try" :: .int r :: .int a :: trees))) := by
  unfold fEnd
  have g0 : gIdx [.d (.tuple [.int r, .int a]), .d (.int 0)] = some (.d (.int r)) := rfl
  have g1 : gIdx [.d (.tuple [.int r, .int a]), .d (.int 1)] = some (.d (.int a)) := rfl
  have g2 : gTuple [.v (.list trees)] = some (.d (.tuple trees)) := by
    show some (mkTp (trees.map mkV)) = _
    rw [mkV_lfs h, mkTp_map]
  have g3 : gAdd [.d (.tuple [.str "try", .int r, .int a]), .d (.tuple trees)] = some (.d (.tuple (.str "try" :: .int r :: .int a :: trees))) := by
    rw [show gAdd [.d (.tuple [.str "try", .int r, .int a]), .d (.tuple trees)] = gCat [.d (.tuple [.str "try", .int r, .int a]), .d (.tuple trees)] from rfl]
    unfold gCat kids
    simp only [List.length_map, List.length_cons, List.length_nil]
    rw [if_pos (by omega), ← List.map_append, mkTp_map]
    rfl
  simp [g0, g1, g2, g3, RP.gTup]
theorem Rps.app {H : Hp} : ∀ {ds : List PyData} {vs : List V} {d : PyData} {v : V}, Rps H ds vs → Rp H d v → Rps H (ds ++ [d]) (vs ++ [v])
  | [], vs, d, v, h, r => by
    have h : vs = [] := h
    subst h
    exact ⟨v, [], rfl, r, rfl⟩
  | e :: ds, _, d, v, ⟨u, us, rfl, h1, h2⟩, r => ⟨u, us ++ [v], rfl, h1, Rps.app h2 r⟩
theorem walk_loop {n : Nat} {r a : Int} {v4 : V} {q : Addr} {u3 : Option V} {res : List PyData × List Tr}
    (S : WS K bd rows pics vb vr p acc fr fps H) (hx : data rows = some x) (h4 : Rp H (.tuple [.int r, .int a]) v4) (hq : H q = some (.lst [])) (qn : q ∉ p :: (fr ++ fps))
    (hw : walkT dWt (walkD dSh dNx dWt bd n) x r a [0, 1] [] pics = some res)
    (hD : ∀ u6 H' acc' fps' tvs, WS K bd rows res.2 vb vr p acc' fr fps' H' → Exp2 p q H H' → (∀ b ∈ fps', b ∈ fr ∨ b ∈ fps ∨ H b = none) → H' q = some (.lst tvs) → Rps H' res.1 tvs → lfs res.1 = true → res.1.length ≤ 2 → D.nx (wSt4 vb vr p u3 (some v4) (some (.ref q)) u6) H') :
    tWkF K W dWt (spW dSh dNx dWt K n) E D (wSt4 vb vr p u3 (some v4) (some (.ref q)) none) H := by
  have pq : q ≠ p := fun z => qn (by rw [z]; exact List.mem_cons_self)
  have S0 : Stt K N0 [none, none, none, none, none, none, none] (wSt4 vb vr p u3 (some v4) (some (.ref q)) none) H (fun _ => []) (fun b => b = p ∨ b = q) := by
    refine ⟨rfl, fun i t h => ?_, fun _ => List.nodup_nil, fun i j a h => (by cases h), fun i a h => (by cases h), fun a h => ?_, fun a h => rfl, fun a o h => (by cases h)⟩
    · match i, h with
      | 0, h => cases h
      | 1, h => cases h
      | 2, h => cases h
      | 3, h => cases h
      | 4, h => cases h
      | 5, h => cases h
      | 6, h => cases h
      | n + 7, h => cases h
    · rcases h with rfl | rfl
      · exact ⟨_, S.hp, .inl ⟨_, rfl⟩⟩
      · exact ⟨_, hq, .inl ⟨_, rfl⟩⟩
  refine ⟨N0, _, _, _, S0, ?_⟩
  have er : fRng2 [none, none, none, none, none, none, none] = .ok ((List.range 2).map fun (i : Nat) => .d (.int (0 + (i : Int)))) := rfl
  rw [er]
  intro J H1 e1 it
  refine ⟨fun i m σ2 H2 => ∃ u6 pics2 acc2 fps2 trees tvs, σ2 = wSt4 vb vr p u3 (some v4) (some (.ref q)) u6 ∧ WS K bd rows pics2 vb vr p acc2 fr fps2 H2 ∧ Exp2 p q H H2 ∧ Exp2 p q H1 H2 ∧ H2 q = some (.lst tvs) ∧ Rps H2 trees tvs ∧ lfs trees = true ∧ q ∉ p :: (fr ++ fps2) ∧ (∀ b ∈ fps2, b ∈ fr ∨ b ∈ fps ∨ H b = none) ∧ i ≤ 2 ∧ m = 2 - i ∧ trees.length ≤ i ∧ walkT dWt (walkD dSh dNx dWt bd n) x r a (([0, 1] : List Int).drop i) trees pics2 = some res,
    ⟨2, none, pics, acc, fps, [], [], rfl, S.grow e1, fun a o _ _ h => e1 a o h, fun a o _ _ h => h, e1 _ _ hq, rfl, rfl, qn, fun b hb => .inr (.inl hb), by omega, rfl, Nat.le_refl _, hw⟩, fun i m σ2 H2 w => ?_⟩
  obtain ⟨u6, pics2, acc2, fps2, trees, tvs, rfl, S2, x2, x12, q2, rt2, lt2, qn2, fp2, hi, rfl, hl, hw2⟩ := w
  have wf2 : Wf N0 (fun b => b = p ∨ b = q) H2 := ⟨fun b h => by
    rcases h with rfl | rfl
    · exact ⟨_, S2.hp, .inl ⟨_, rfl⟩⟩
    · exact ⟨_, q2, .inl ⟨_, rfl⟩⟩, fun b h => rfl, fun b o h => by cases h⟩
  obtain ⟨j1, j2, j3⟩ := it i (fun b => b = p ∨ b = q) H2 wf2 (gh_mono (fun b o no h => x12 b o (fun z => no (.inl z)) (fun z => no (.inr z)) h) fun b h => .inl h) nofun
  rw [List.length_map, List.length_range] at j1 j3
  by_cases hlt : i < 2
  · refine .inr ⟨j1 hlt, ?_⟩
    refine ⟨fun σ4 H4 => ∃ u6 pics2 acc2 fps2 trees tvs, σ4 = wSt4 vb vr p u3 (some v4) (some (.ref q)) u6 ∧ WS K bd rows pics2 vb vr p acc2 fr fps2 H4 ∧ Exp2 p q H H4 ∧ Exp2 p q H1 H4 ∧ H4 q = some (.lst tvs) ∧ Rps H4 trees tvs ∧ lfs trees = true ∧ q ∉ p :: (fr ++ fps2) ∧ (∀ b ∈ fps2, b ∈ fr ∨ b ∈ fps ∨ H b = none) ∧ trees.length ≤ i + 1 ∧ walkT dWt (walkD dSh dNx dWt bd n) x r a (([0, 1] : List Int).drop (i + 1)) trees pics2 = some res, fun σ4 H4 n4 => ?_, fun y H3 yl => ?_⟩
    · obtain ⟨u, a1, a2, a3, a4, a5, b1, b2, b3, b4, b5, b6, b7, b8, b9, b10, b11⟩ := n4
      exact ⟨2 - (i + 1), by omega, u, a1, a2, a3, a4, a5, b1, b2, b3, b4, b5, b6, b7, b8, b9, by omega, rfl, b10, b11⟩
    · have hit : ((List.range 2).map fun (i : Nat) => Tr.d (.int (0 + (i : Int))))[i]? = some (.d (.int (0 + (i : Int)))) := by
        rw [List.getElem?_map, List.getElem?_range hlt]; rfl
      obtain ⟨e3, ⟨_, ry⟩, _⟩ := j2 _ hit y H3 yl
      have ry : y = .int (0 + (i : Int)) := ry
      rw [Int.zero_add] at ry
      subst ry
      have S3 := S2.grow e3
      have kd : (([0, 1] : List Int).drop i) = (i : Int) :: (([0, 1] : List Int).drop (i + 1)) := by
        match i, hlt with
        | 0, _ => rfl
        | 1, _ => rfl
      rw [kd] at hw2
      unfold walkT at hw2
      obtain ⟨ds2, hds2⟩ := scls_data pics2 S2.sp
      have hdl := datas_len hds2
      show tWkL K W dWt _ E _ (wSt4 vb vr p u3 (some v4) (some (.ref q)) (some (.int (i : Int)))) H3
      have r6 : ∀ H', Rp H' (.int (i : Int)) (.int (i : Int)) := fun _ => rfl
      refine ⟨noP p H3, _, _, _, S3.stt hx hds2 (SlOk.none (u := u3)) (SlOk.none (u := some v4)) (SlOk.none (u := some (.ref q))) (SlOk.none (u := some (.int (i : Int)))), ?_⟩
      have ec : cLt2 (wEn4 bd x ds2 none none none none) = .ok (decide (pics2.length < 2)) := by
        unfold cLt2
        simp [hdl]
        omega
      rw [ec]
      intro H4 e4
      have S4 := S3.grow e4
      have e24 := e3.trans e4
      by_cases hc : pics2.length < 2
      · rw [if_pos hc] at hw2
        rw [if_pos (decide_eq_true hc)]
        refine ⟨.ref q, rfl, .inl ⟨rfl, _, SqL.of (e24 _ _ q2)⟩, vb, rfl, ?_⟩
        have t4 : Rp H4 (.tuple [.int r, .int a]) v4 := Rp.tups (fun b xs h => by
          have nb : b ≠ p := fun z => by rw [z, S.hp] at h; cases h
          have nq : b ≠ q := fun z => by rw [z, hq] at h; cases h
          exact e24 _ _ (x2 b _ nb nq h)) _ v4 rfl h4
        refine ⟨noP p H4, _, _, _, S4.stt hx hds2 (SlOk.none (u := u3)) (SlOk.d t4 rfl) (SlOk.none (u := some (.ref q))) (SlOk.d (r6 H4) rfl), ?_⟩
        rw [fWt_eq]
        cases hwt : dWt [mkE x, .d (.int r), .d (.int a), .d (.int (i : Int))] with
        | er c => rw [hwt] at hw2; cases hw2
        | no => rw [hwt] at hw2; cases hw2
        | ok t =>
          rw [hwt] at hw2
          simp only at hw2
          by_cases hs : (sclT t && clean t) = true
          · rw [if_pos hs] at hw2
            rw [Bool.and_eq_true] at hs
            obtain ⟨q1, hq1, hw3⟩ := Option.bind_eq_some_iff.mp hw2
            intro vt H5 ⟨e5, fq, nd5, fr5, rt5⟩
            have e25 := e24.trans e5
            have S5 := S4.grow e5
            refine ⟨.ref p, rfl, ?_⟩
            have rt5' : RT K N0 H5 N0 t vt fq := scl_move t vt fq hs.1 (fun _ _ => rfl) rt5
            have fresh : ∀ b ∈ p :: (fr ++ fps2), b ∉ fq := fun b hb z => by
              obtain ⟨o, ho, _⟩ := S4.is hb
              rw [fr5 b z] at ho; cases ho
            have nd2 := List.nodup_cons.mp S2.nd
            have ndp := List.nodup_append.mp nd2.2
            refine ⟨bd, t, pics2, vb, vt, p, acc2, fq, fps2, rfl, ⟨S5.lb, S5.rb, hs.1, rt5', S5.hp, S5.sp, S5.rp, List.nodup_cons.mpr ⟨fun z => ?_, List.nodup_append.mpr ⟨nd5, ndp.2.1, fun b hb c hc z => ?_⟩⟩⟩, ?_⟩
            · rcases List.mem_append.mp z with z | z
              · exact fresh p List.mem_cons_self z
              · exact nd2.1 (List.mem_append_right _ z)
            · subst z
              exact fresh b (List.mem_cons_of_mem _ (List.mem_append_right _ hc)) hb
            · rw [hq1]
              obtain ⟨tree, pics3⟩ := q1
              obtain ⟨lft, scl3⟩ := walkD_lf n t pics2 _ hs.1 S2.sp hq1
              intro v H6 acc6 fps6 ex6 hp6 rp6 nd6 fp6 rv6
              have q6 : H6 q = some (.lst tvs) := ex6 _ _ pq (e25 _ _ q2)
              have q5 : H5 q = some (.lst tvs) := e25 _ _ q2
              refine ⟨q, tvs, v, rfl, rfl, q6, ?_, ?_⟩
              · have := rt2.length
                unfold sizeLine
                omega
              · have k6 : ∀ b ∈ fr, H6 b = H5 b := fun b hb => by
                  obtain ⟨o, ho, _⟩ := S5.is (List.mem_cons_of_mem _ (List.mem_append_left _ hb))
                  have nb : b ≠ p := fun z => nd2.1 (by rw [← z]; exact List.mem_append_left _ hb)
                  rw [ho, ex6 b o nb ho]
                have qf6 : q ∉ fps6 := fun z => by
                  rcases fp6 q z with z | z | z
                  · have := fr5 q z
                    rw [e24 _ _ q2] at this; cases this
                  · exact qn2 (List.mem_cons_of_mem _ (List.mem_append_right _ z))
                  · rw [q5] at z; cases z
                have qfr : q ∉ fr := fun z => qn2 (List.mem_cons_of_mem _ (List.mem_append_left _ z))
                have up : ∀ b, b ≠ q → upd H6 q (.lst (tvs ++ [v])) b = H6 b := fun b hb => upd_ne hb
                have t6 : ∀ b xs, H5 b = some (.tup xs) → upd H6 q (.lst (tvs ++ [v])) b = some (.tup xs) := fun b xs h => by
                  have nb : b ≠ p := fun z => by rw [z, S5.hp] at h; cases h
                  have nq : b ≠ q := fun z => by rw [z, q5] at h; cases h
                  rw [up b nq]; exact ex6 b _ nb h
                have t66 : ∀ b xs, H6 b = some (.tup xs) → upd H6 q (.lst (tvs ++ [v])) b = some (.tup xs) := fun b xs h => by
                  have nq : b ≠ q := fun z => by rw [z, q6] at h; cases h
                  rw [up b nq]; exact h
                have x56 : ∀ b o, b ≠ p → b ≠ q → H5 b = some o → upd H6 q (.lst (tvs ++ [v])) b = some o := fun b o nb nq h => by rw [up b nq]; exact ex6 b o nb h
                refine ⟨some (.int (i : Int)), pics3, acc6, fps6, trees ++ [tree], tvs ++ [v], rfl, ⟨S5.lb, Rp.tups t6 bd vb S5.lb S5.rb, S5.sr, ?_, ?_, scl3, ?_, ?_⟩, fun b o nb nq h => x56 b o nb nq (e25 _ _ (x2 b o nb nq h)), fun b o nb nq h => x56 b o nb nq (e25 _ _ (x12 b o nb nq h)), upd_same, ?_, lfs_app lt2 (by show (lf tree && true) = true; rw [lft]; rfl), ?_, fun b hb => ?_, ?_, hw3⟩
                · exact scl_move rows vr fr S5.sr (fun b hb => by rw [up b (fun z => qfr (by rw [← z]; exact hb)), k6 b hb]) S5.rr
                · rw [up p pq.symm]; exact hp6
                · exact scls_move pics3 acc6 fps6 scl3 (fun b hb => up b fun z => qf6 (by rw [← z]; exact hb)) rp6
                · refine List.nodup_cons.mpr ⟨fun z => ?_, List.nodup_append.mpr ⟨ndp.1, (List.nodup_cons.mp nd6).2, fun b hb c hc z => ?_⟩⟩
                  · rcases List.mem_append.mp z with z | z
                    · exact nd2.1 (List.mem_append_left _ z)
                    · exact (List.nodup_cons.mp nd6).1 z
                  · subst z
                    rcases fp6 b hc with z | z | z
                    · exact fresh b (List.mem_cons_of_mem _ (List.mem_append_left _ hb)) z
                    · exact ndp.2.2 b hb b z rfl
                    · obtain ⟨o, ho, _⟩ := S5.is (List.mem_cons_of_mem _ (List.mem_append_left _ hb))
                      rw [ho] at z; cases z
                · refine Rps.app (Rps.tups (fun b xs h => ?_) trees tvs lt2 rt2) (Rp.tups t66 tree v lft rv6)
                  exact t6 b xs (e25 _ _ h)
                · intro z
                  rcases List.mem_cons.mp z with z | z
                  · exact pq z
                  · rcases List.mem_append.mp z with z | z
                    · exact qfr z
                    · exact qf6 z
                · rcases fp6 b hb with z | z | z
                  · refine .inr (.inr ?_)
                    cases hb0 : H b with
                    | none => rfl
                    | some o =>
                      by_cases nb : b = p
                      · subst nb; exact absurd z (fresh _ List.mem_cons_self)
                      · by_cases nq : b = q
                        · subst nq; exact absurd hb qf6
                        · have := e24 _ _ (x2 b o nb nq hb0)
                          rw [fr5 b z] at this; cases this
                  · exact fp2 b z
                  · refine .inr (.inr ?_)
                    cases hb0 : H b with
                    | none => rfl
                    | some o =>
                      by_cases nb : b = p
                      · subst nb; exact absurd hb (List.nodup_cons.mp nd6).1
                      · by_cases nq : b = q
                        · subst nq; exact absurd hb qf6
                        · have := e25 _ _ (x2 b o nb nq hb0)
                          rw [z] at this; cases this
                · rw [List.length_append, List.length_singleton]; omega
          · rw [if_neg hs] at hw2; cases hw2
      · rw [if_neg hc] at hw2
        rw [if_neg (by simpa using hc)]
        exact ⟨some (.int (i : Int)), pics2, acc2, fps2, trees, tvs, rfl, S4, fun b o nb nq h => e24 _ _ (x2 b o nb nq h), fun b o nb nq h => e24 _ _ (x12 b o nb nq h), e24 _ _ q2, Rps.tups (fun b xs h => e24 _ _ h) trees tvs lt2 rt2, lt2, qn2, fp2, by omega, hw2⟩
  · have ei : i = 2 := by omega
    subst ei
    refine .inl ⟨j3 (Nat.le_refl _), ?_⟩
    have hw2 : some (trees, pics2) = some res := hw2
    cases hw2
    exact hD u6 H2 acc2 fps2 tvs S2 x2 fp2 q2 rt2 lt2 hl
theorem noneStt (σ : L2.St) (H : Hp) : Stt K N0 (List.replicate σ.length none) σ H (fun _ => []) (fun _ => False) := by
  refine ⟨(List.length_replicate ..).symm, fun i t h => ?_, fun _ => List.nodup_nil, fun i j a h => (by cases h), fun i a h => (by cases h), fun a h => h.elim, fun a h => rfl, fun a o h => (by cases h)⟩
  obtain ⟨_, z⟩ := List.mem_replicate.mp (List.mem_of_getElem? h)
  cases z
theorem cSh_eq {ds : List PyData} {s : PyData} {t4 t5 t6 : Option Tr} : cSh (wEn4 bd x ds (some (.d s)) t4 t5 t6) = .ok (match s with | .none => false | _ => true) := by
  cases s <;> rfl
theorem cNx_eq {ds : List PyData} {s : PyData} {t3 t5 t6 : Option Tr} : cNx (wEn4 bd x ds t3 (some (.d s)) t5 t6) = .ok (match s with | .none => true | _ => false) := by
  cases s <;> rfl
theorem walk_sound {n : Nat} {vs : List V} {Q : VK} {E' : XK} (h : spW dSh dNx dWt K (n + 1) vs H Q E') :
    tWk K W dSh dNx dWt (spW dSh dNx dWt K n) E { nx := fun _ H' => Q .non H', rt := Q } (start ["board", "rows", "pictures", "shut", "cell", "trees", "told"] vs) H := by
  obtain ⟨bd, rows, pics, vb, vr, p, acc, fr, fps, rfl, S, h⟩ := h
  obtain ⟨x, hx⟩ := scl_data rows S.sr
  obtain ⟨ds, hds⟩ := scls_data pics S.sp
  have hal := S.rp.length
  cases hw : walkD dSh dNx dWt bd (n + 1) rows pics with
  | none => rw [hw] at h; exact h.elim
  | some res =>
  rw [hw] at h
  obtain ⟨tree, pics'⟩ := res
  simp only at h
  unfold walkD at hw
  rw [hx, Option.bind_some] at hw
  show tWk K W dSh dNx dWt (spW dSh dNx dWt K n) E _ (wSt4 vb vr p none none none none) H
  refine ⟨noP p H, _, _, _, S.stt hx hds SlOk.none SlOk.none SlOk.none SlOk.none, ?_⟩
  rw [fTwo_eq dSh S.lb]
  -- a value told, at slot 3
  have s3 : ∀ (s : PyData), lf s = true → dSh [.d bd, mkE x] = .ok (.d s) → (∀ v H1, Exn H H1 → Rp H1 s v → tSeq (tIfS (tT K W cSh) (tRet (tVar 3)) tNext) (tSeq (tAsg (tM K W (fTwo dNx)) (gName 4)) (tSeq (tIfS (tT K W cNx) (tSeq (tDrop (tBM K "list" rAppend (tVar 2) (tCons (tVar 1) tNil))) (tRet (tM K W fPic))) tNext)
      (tSeq (tAsg (tM K W fEmp) (gName 5)) (tSeq (tWkF K W dWt (spW dSh dNx dWt K n) E) (tRet (tM K W fEnd)))))) { nx := fun _ H' => Q .non H', rt := Q } (wSt4 vb vr p (some v) none none none) H1) →
      Fin K W (noP p H) (fun a => a = p) (wSt4 vb vr p none none none none) H (dSh [.d bd, mkE x]) (fun v H1 => tSeq (tIfS (tT K W cSh) (tRet (tVar 3)) tNext) (tSeq (tAsg (tM K W (fTwo dNx)) (gName 4)) (tSeq (tIfS (tT K W cNx) (tSeq (tDrop (tBM K "list" rAppend (tVar 2) (tCons (tVar 1) tNil))) (tRet (tM K W fPic))) tNext)
      (tSeq (tAsg (tM K W fEmp) (gName 5)) (tSeq (tWkF K W dWt (spW dSh dNx dWt K n) E) (tRet (tM K W fEnd)))))) { nx := fun _ H' => Q .non H', rt := Q } (wSt4 vb vr p (some v) none none none) H1) := fun s _ e k => by
    rw [e]
    intro v H1 ⟨e1, fq, _, _, _, r⟩
    exact k v H1 e1 (Rp.mono gh_sub s v r)
  split at hw
  · rename_i hsh
    refine s3 .none rfl hsh fun v3 H1 e1 r3 => ?_
    have S1 := S.grow e1
    refine ⟨noP p H1, _, _, _, S1.stt hx hds (SlOk.d r3 rfl) (SlOk.none (u := none)) (SlOk.none (u := none)) (SlOk.none (u := none)), ?_⟩
    rw [cSh_eq]
    intro H2 e2
    have e02 := e1.trans e2
    have S2 := S1.grow e2
    rw [if_neg (by decide)]
    refine ⟨noP p H2, _, _, _, S2.stt hx hds (SlOk.none (u := some v3)) (SlOk.none (u := none)) (SlOk.none (u := none)) (SlOk.none (u := none)), ?_⟩
    rw [fTwo_eq dNx S.lb]
    split at hw
    · rename_i hnx
      rw [hnx]
      intro v4 H3 ⟨e3, fq, _, _, _, r4⟩
      have r4 := Rp.mono gh_sub PyData.none v4 r4
      have S3 := S2.grow e3
      refine ⟨noP p H3, _, _, _, S3.stt hx hds (SlOk.none (u := some v3)) (SlOk.d r4 rfl) (SlOk.none (u := none)) (SlOk.none (u := none)), ?_⟩
      rw [cNx_eq]
      intro H4 e4
      rw [if_pos (by rfl)]
      have S4 := S3.grow e4
      have e04 := (e02.trans e3).trans e4
      by_cases hl : pics.length < 100000
      · rw [if_pos hl] at hw
        cases hw
        refine ⟨.ref p, rfl, .inl ⟨rfl, _, SqL.of S4.hp⟩, vr, rfl, p, acc, vr, rfl, rfl, S4.hp, by unfold sizeLine; omega, ?_⟩
        refine ⟨N0, _, _, _, noneStt _ _, ?_⟩
        have ep : ∀ en, fPic en = .ok (.d (.tuple [.str "picture"])) := fun _ => rfl
        rw [ep]
        intro v H5 ⟨e5, fq5, _, _, _, r5⟩
        have r5 := Rp.mono gh_sub _ v r5
        have nd := List.nodup_cons.mp S.nd
        have nda := List.nodup_append.mp nd.2
        have up : ∀ a, a ≠ p → upd H4 p (.lst (acc ++ [vr])) a = H4 a := fun a ha => upd_ne ha
        have at5 : ∀ a o, H4 a = some o → a ≠ p → H5 a = some o := fun a o ho ha => e5 _ _ (by rw [up a ha]; exact ho)
        refine h v H5 (acc ++ [vr]) (fps ++ fr) (fun a o ha ho => at5 a o (e04 _ _ ho) ha) (e5 _ _ upd_same) ?_ ?_ ?_ r5
        · refine RTs.append (scls_move pics acc fps S4.sp (fun a ha => ?_) S4.rp) (RTs.one (scl_move rows vr fr S4.sr (fun a ha => ?_) S4.rr))
          · obtain ⟨o, ho, _⟩ := S4.is (List.mem_cons_of_mem _ (List.mem_append_right _ ha))
            rw [ho, at5 a o ho fun z => nd.1 (by rw [← z]; exact List.mem_append_right _ ha)]
          · obtain ⟨o, ho, _⟩ := S4.is (List.mem_cons_of_mem _ (List.mem_append_left _ ha))
            rw [ho, at5 a o ho fun z => nd.1 (by rw [← z]; exact List.mem_append_left _ ha)]
        · refine List.nodup_cons.mpr ⟨fun z => ?_, List.nodup_append.mpr ⟨nda.2.1, nda.1, fun a ha b hb z => ?_⟩⟩
          · rcases List.mem_append.mp z with z | z
            · exact nd.1 (List.mem_append_right _ z)
            · exact nd.1 (List.mem_append_left _ z)
          · exact nda.2.2 b hb a ha z.symm
        · intro a ha
          rcases List.mem_append.mp ha with z | z
          · exact .inr (.inl z)
          · exact .inl z
      · rw [if_neg hl] at hw; cases hw
    · rename_i r a hnx
      rw [hnx]
      intro v4 H3 ⟨e3, fq, _, _, _, r4⟩
      have r4 := Rp.mono gh_sub _ v4 r4
      have S3 := S2.grow e3
      refine ⟨noP p H3, _, _, _, S3.stt hx hds (SlOk.none (u := some v3)) (SlOk.d r4 rfl) (SlOk.none (u := none)) (SlOk.none (u := none)), ?_⟩
      rw [cNx_eq]
      intro H4 e4
      rw [if_neg (by intro z; cases z)]
      have S4 := S3.grow e4
      refine ⟨N0, _, _, _, noneStt _ _, ?_⟩
      have ee : ∀ en, fEmp en = .ok (.ol []) := fun _ => rfl
      rw [ee]
      intro v5 H5 ⟨e5, fq5, nd5, fr5, q, vs5, fps5, ev5, hfq, hq, hz⟩
      obtain ⟨rfl, rfl⟩ := hz
      subst ev5
      subst hfq
      have S5 := S4.grow e5
      have e05 := ((e02.trans e3).trans e4).trans e5
      have e45 := e4.trans e5
      have qn : q ∉ p :: (fr ++ fps) := fun z => by
        obtain ⟨o, ho, _⟩ := S4.is z
        rw [fr5 q (by simp)] at ho; cases ho
      obtain ⟨res, hres, hw⟩ := Option.map_eq_some_iff.mp hw
      have t5 : Rp H5 (.tuple [.int r, .int a]) v4 := Rp.tups (fun b xs h => e45 _ _ h) _ v4 rfl r4
      refine walk_loop (u3 := some v3) S5 hx t5 hq qn hres fun u6 H6 acc6 fps6 tvs S6 x6 fp6 q6 rt6 lf6 hl6 => ?_
      obtain ⟨ds6, hds6⟩ := scls_data _ S6.sp
      have t6 : Rp H6 (.tuple [.int r, .int a]) v4 := Rp.tups (fun b xs h => by
        have nb : b ≠ p := fun z => by rw [z, S5.hp] at h; cases h
        have nq : b ≠ q := fun z => by rw [z, hq] at h; cases h
        exact x6 b _ nb nq h) _ v4 rfl t5
      refine ⟨noP p H6, _, _, _, S6.stt hx hds6 (SlOk.none (u := some v3)) (SlOk.d t6 rfl) (SlOk.v (s := .list res.1) ⟨q, tvs, rfl, q6, rt6⟩) (SlOk.none (u := u6)), ?_⟩
      rw [fEnd_eq lf6 hl6]
      intro v H7 ⟨e7, fq7, _, _, _, r7⟩
      have r7 := Rp.mono gh_sub _ v r7
      have S7 := S6.grow e7
      cases hw
      have nd7 := List.nodup_cons.mp S7.nd
      refine h v H7 acc6 fps6 (fun b o nb ho => ?_) S7.hp S7.rp (List.nodup_cons.mpr ⟨fun z => nd7.1 (List.mem_append_right _ z), (List.nodup_append.mp nd7.2).2.1⟩) (fun b hb => ?_) r7
      · have nq : b ≠ q := fun z => by
          have := ((e02.trans e3).trans e4) _ _ ho
          rw [z, fr5 q (by simp)] at this; cases this
        exact e7 _ _ (x6 b o nb nq (e05 _ _ ho))
      · rcases fp6 b hb with z | z | z
        · exact .inl z
        · exact .inr (.inl z)
        · exact .inr (.inr (Exn.back e05 z))
    · cases hw
  · rename_i ts hsh
    split at hw
    · rename_i hl
      cases hw
      refine s3 (.tuple ts) hl hsh fun v3 H1 e1 r3 => ?_
      have S1 := S.grow e1
      refine ⟨noP p H1, _, _, _, S1.stt hx hds (SlOk.d r3 hl) (SlOk.none (u := none)) (SlOk.none (u := none)) (SlOk.none (u := none)), ?_⟩
      rw [cSh_eq]
      intro H2 e2
      rw [if_pos rfl]
      have e02 := e1.trans e2
      have S2 := S1.grow e2
      have nd := List.nodup_cons.mp S.nd
      exact ⟨v3, rfl, h v3 H2 acc fps (fun a o _ ho => e02 _ _ ho) S2.hp S2.rp (List.nodup_cons.mpr ⟨fun z => nd.1 (List.mem_append_right _ z), (List.nodup_append.mp nd.2).2.1⟩) (fun a ha => .inr (.inl ha)) (Rp.mono e2 _ v3 r3)⟩
    · cases hw
  · cases hw
end
end RP
namespace RP
open PySem L2
abbrev pWk : List Str := ["board", "rows", "pictures"]
abbrev nWk : List Str := ["board", "rows", "pictures", "shut", "cell", "trees", "told"]
def CalS (P : Program) (w : World) (K : PySem.W.Frag) (mg : Str → Option Value) (base : Heap) (x : Str) (k : Nat) (sp : Sp) : Prop :=
  ∃ (f : Addr) (fd : FuncData) (ps : List Str), FnOk P w K mg base (L2.CX P w) k f fd ps sp ∧ mg x = some (.ref f) ∧ PySem.W.keepIn K (.ref f) = true ∧ Binds K fd ps []
section
variable {P : Program} {w : World} {K : PySem.W.Frag} {mg : Str → Option Value} {base : Heap} {cl : Str → Addr} {dSh dNx dWt : Den}
theorem spW_len {n : Nat} {vs : List V} {H : Hp} {Q : VK} {E : XK} (h : spW dSh dNx dWt K n vs H Q E) : vs.length = 3 := by
  obtain ⟨_, _, _, _, _, _, _, _, _, rfl, _⟩ := h
  rfl
theorem walk_ok {x : Str} {st : Stmt} {f : Addr} {fd : FuncData} {k : Nat} (F : Fun K x x st f fd) (S : FnScope nWk pWk (defScope st)) (g : mg x = some (.ref f)) (b : Binds K fd pWk [])
    (hb : ∀ n, CalS P w K mg base x (k + n + 1) (spW dSh dNx dWt K n) → ∀ (cdv : Value) (A : Around) (outer : List Env) (s : Shared) (H : Hp) (E : XK), Room (k + n + 1) (A.deeper (PyProof.Rows.envOfC x (defScope st) s.heap.objs.size f cdv)) →
      PSs (cxOf (L2.CX P w) P w K mg base nWk x (defScope st) f cdv A outer s H E) (defBody st) (tWk K (wOf cl (fun c d _ H' => E c d H')) dSh dNx dWt (spW dSh dNx dWt K n) (WE (fun c d _ H' => E c d H')))) :
    ∀ n, CalS P w K mg base x (k + n + 1) (spW dSh dNx dWt K n)
  | 0 => by
    refine ⟨f, fd, pWk, ?_, g, F.kp, b⟩
    refine F.okX S (fun vs H Q E h => spW_len h) fun cdv A outer s H vs Q E hr h => ?_
    obtain ⟨_, _, _, _, _, _, _, _, _, _, _, h⟩ := h
    exact h.elim
  | n + 1 => by
    refine ⟨f, fd, pWk, ?_, g, F.kp, b⟩
    exact F.okX S (fun vs H Q E h => spW_len h) fun cdv A outer s H vs Q E hr h => ⟨_, hb n (walk_ok F S g b hb n) cdv A outer s H E hr, walk_sound h⟩
end
section
variable {X : Cx} {Wx : WX} {cl : Str → Addr}
theorem pe_cals {k k0 : Nat} {sp : Sp} {t : TA} {x : Str} {p pos : Pos} {e : Expr} {es : List Expr} (c : CalS X.prog X.w X.K X.mg X.base x k sp) (tk : Takes X Wx) (hr : Room k0 X.A) (hk : k ≤ k0) (hg : Gl X x) (ha : PA X (e :: es) t)
    (hdb : (x == ("__debug__" : Str)) = false := by decide) (he : starEach (e :: es) X.env = (false, eval e X.env) :: starEach es X.env := by rfl) (hpl : (backTo pos (starEach es X.env)).any (·.1) = false := by rfl) :
    PE X (.Call (.Name x p) (e :: es) [] pos) (tCallS sp (WE Wx) t) := by
  obtain ⟨f, fd, ps, F, g1, g2, g3⟩ := c
  exact pe_callS F (hr.mono hk) hg g1 g2 g3 (fun σ => passAt tk σ) ha hdb he hpl
theorem ks_app {o e : Expr} {to te : TE} {apos cpos pos : Pos} (hp : PE X o to) (hg : PE X e te) (hbase : attributeBase o "append" X.env (eval o X.env) = eval o X.env := by rfl)
    (hfew : ((backTo cpos (starEach (e :: []) X.env)).all (fun x => !x.1) && (backToKw cpos (keywordEach [] X.env)).all (fun x => x.1.isSome)
      && decide ((e :: []).length + ([] : List Keyword).length + (if ([] : List Keyword).isEmpty then 0 else 1) < 30)) = true := by rfl)
    (hline : (apos.endLine == cpos.line) = true := by rfl) (hs : starEach (e :: []) X.env = (false, eval e X.env) :: starEach [] X.env := by rfl) (hplain : (backTo cpos (starEach [] X.env)).any (·.1) = false := by rfl)
    (hsw : swapsWith (.Call (.Attribute o "append" apos) [e] [] cpos) none pos.line X.env = pure false := by rfl) : PS X (.Expr (.Call (.Attribute o "append" apos) [e] [] cpos) pos) (tDrop (tBM X.K "list" rAppend to (tCons te tNil))) :=
  ps_expr (pe_bm PySem.F.plainAttrs_list PySem.F.slot_list_append PySem.F.type_list_append mt_append hp (pa_cons hg pa_nil hs) hbase hfew hline hs hplain) hsw
end
/-! ### the caller -/
def dCallW (dSh dNx dWt : Den) (n a i j : Nat) (fa : En → Rs Tr) : DenS := fun en => match en[a]?, en[i]? with
  | some (some ta), some (some (.ol ts)) => (match data ta with
    | some bd => if lf bd && sclTs ts && decide (j < en.length) && decide (j ≠ i) then onR (fa en) en fun t => if sclT t then (match walkD dSh dNx dWt bd n t ts with
      | some (tree, ts') => .nx ((en.set i (some (.ol ts'))).set j (some (.d tree)))
      | none => .no) else .no else .no
    | none => .no)
  | _, _ => .no
mutual
theorem scl_noV : ∀ t : Tr, sclT t = true → noV t = true
  | .d _, _ => rfl
  | .ol ts, s => scls_noV ts s
  | .e _, s => by cases s
  | .v _, s => by cases s
  | .s _, s => by cases s
  | .dt _, s => by cases s
  | .tp _, s => by cases s
theorem scls_noV : ∀ ts : List Tr, sclTs ts = true → noVs ts = true
  | [], _ => rfl
  | t :: ts, s => by
    have s' : (sclT t && sclTs ts) = true := s
    rw [Bool.and_eq_true] at s'
    show (noV t && noVs ts) = true
    rw [scl_noV t s'.1, scls_noV ts s'.2]; rfl
end
section
variable {K : PySem.W.Frag} {W : WW} {H : Hp} {σ : L2.St} {D : Ends} {dSh dNx dWt : Den}
theorem ts_callw {n a i j : Nat} {fa : En → Rs Tr} {E : L2.St → XK} (h : tS K W (dCallW dSh dNx dWt n a i j fa) D σ H) : tAsg (tCallS (spW dSh dNx dWt K n) E (tCons (tVar a) (tCons (tM K W fa) (tCons (tVar i) tNil)))) (gName j) D σ H := by
  obtain ⟨F, en, fp, O, S, h⟩ := h
  unfold dCallW at h
  split at h
  · rename_i ta ts qa qi
    split at h
    · rename_i bd hbd
      split at h
      · rename_i hc
        simp only [Bool.and_eq_true, decide_eq_true_eq] at hc
        obtain ⟨⟨⟨c1, c2⟩, c3⟩, c4⟩ := hc
        obtain ⟨va, ha, ra⟩ := S.sl a ta qa
        obtain ⟨vi, hvi, p, acc, fps, rfl, efp, hp, rps⟩ := S.sl i _ qi
        have rbd := RT.data gh_sub S.ex ta va _ bd ra hbd
        refine ⟨va, ha, F, en, fp, O, S.toStt, ?_⟩
        cases e : fa en with
        | er c => rw [e] at h; exact fun H' e1 => h σ H' fp O (S.grow e1) (gh_grow e1)
        | no => rw [e] at h; exact h
        | ok t =>
          rw [e] at h
          simp only [onR_ok] at h
          by_cases hs : sclT t = true
          · rw [if_pos hs] at h
            cases hw : walkD dSh dNx dWt bd n t ts with
            | none => rw [hw] at h; exact h.elim
            | some q =>
              obtain ⟨tree, ts'⟩ := q
              rw [hw] at h
              simp only at h
              obtain ⟨lft, scl'⟩ := walkD_lf n t ts _ hs c2 hw
              intro vt H1 ⟨e1, fq, nd, fr, rt⟩
              have memi : ∀ b, b ∈ p :: fps → b ∈ fp i := fun b hb => by rw [efp]; exact hb
              have some0 : ∀ b, O b → ∃ o, H b = some o ∧ IsOwn o := S.own
              have keep1 : ∀ b, O b → H1 b = H b := fun b hb => by
                obtain ⟨o, ho, _⟩ := S.own b hb
                rw [ho, e1 _ _ ho]
              have Oi : ∀ b, b ∈ p :: fps → O b := fun b hb => S.fo i b (memi b hb)
              have ndi : (p :: fps).Nodup := by rw [← efp]; exact S.nd i
              have fresh : ∀ b, O b → b ∉ fq := fun b hb z => by
                obtain ⟨o, ho, _⟩ := S.own b hb
                rw [fr b z] at ho; cases ho
              refine ⟨.ref p, hvi, bd, t, ts, va, vt, p, acc, fq, fps, rfl, ⟨c1, Rp.mono e1 bd va rbd, hs, scl_move t vt fq hs (fun _ _ => rfl) rt, e1 _ _ hp, c2,
                scls_move ts acc fps c2 (fun b hb => keep1 b (Oi b (List.mem_cons_of_mem _ hb))) rps, List.nodup_cons.mpr ⟨fun z => ?_, List.nodup_append.mpr ⟨nd, (List.nodup_cons.mp ndi).2, fun b hb c hc' z => ?_⟩⟩⟩, ?_⟩
              · rcases List.mem_append.mp z with z | z
                · exact fresh p (Oi p List.mem_cons_self) z
                · exact (List.nodup_cons.mp ndi).1 z
              · subst z
                exact fresh b (Oi b (List.mem_cons_of_mem _ hc')) hb
              · rw [hw]
                intro v H2 acc' fps' ex2 hp2 rp2 nd2 fp2 rv2
                have Fp : F p = none := S.nw p (Oi p List.mem_cons_self)
                have kp2 : ∀ b o, b ≠ p → H b = some o → H2 b = some o := fun b o nb ho => ex2 b o nb (e1 _ _ ho)
                -- the new part, seen from before
                have new0 : ∀ b ∈ fps', O b ∨ H b = none := fun b hb => by
                  rcases fp2 b hb with z | z | z
                  · exact .inr (fr b z)
                  · exact .inl (Oi b (List.mem_cons_of_mem _ z))
                  · exact .inr (Exn.back e1 z)
                have newi : ∀ b ∈ fps', ∀ k, k ≠ i → b ∉ fp k := fun b hb k hk z => by
                  rcases fp2 b hb with y | y | y
                  · exact fresh b (S.fo k b z) y
                  · exact hk (S.dj k i b z (memi b (List.mem_cons_of_mem _ y)))
                  · obtain ⟨o, ho, _⟩ := S.own b (S.fo k b z)
                    rw [e1 _ _ ho] at y; cases y
                have gx : Exn (gh F O H) (gh F (fun b => O b ∨ b ∈ fps') H2) := gh_mono (fun b o nO ho => kp2 b o (fun z => nO (by rw [z]; exact Oi p List.mem_cons_self)) ho) fun b hb => hb.elim .inl (new0 b)
                have hi : i < en.length := (List.getElem?_eq_some_iff.mp qi).1
                have S1 : StS K F (en.set i (some (.ol ts'))) σ H2 (fun k => if k = i then p :: fps' else fp k) (fun b => O b ∨ b ∈ fps') := by
                  refine ⟨⟨by rw [List.length_set]; exact S.len, fun k u hk => ?_, fun k => ?_, fun k l b h1 h2 => ?_, fun k b h1 => ?_, fun b hb => ?_, fun b hb => ?_, fun b o ho => ?_⟩, ?_⟩
                  · by_cases q : k = i
                    · subst q
                      rw [List.getElem?_set_self hi] at hk
                      cases hk
                      rw [if_pos rfl]
                      exact ⟨.ref p, hvi, p, acc', fps', rfl, rfl, hp2, scls_move ts' acc' fps' scl' (fun _ _ => rfl) rp2⟩
                    · rw [List.getElem?_set_ne (Ne.symm q)] at hk
                      obtain ⟨w, h1, h2⟩ := S.sl k u hk
                      rw [if_neg q]
                      refine ⟨w, h1, RT.frame gx u w (fp k) (fun b hb => ?_) (S.nv k u hk) h2⟩
                      obtain ⟨o, ho, _⟩ := S.own b (S.fo k b hb)
                      rw [ho, kp2 b o (fun z => q (S.dj k i b hb (by rw [z]; exact memi p List.mem_cons_self))) ho]
                  · show (if k = i then p :: fps' else fp k).Nodup
                    split
                    · exact nd2
                    · exact S.nd k
                  · have h1 : b ∈ if k = i then p :: fps' else fp k := h1
                    have h2 : b ∈ if l = i then p :: fps' else fp l := h2
                    have pne : ∀ k, k ≠ i → p ∉ fp k := fun k hk z => hk (S.dj k i p z (memi p List.mem_cons_self))
                    have ne : ∀ k, k ≠ i → b ∈ fp k → b ∉ p :: fps' := fun k hk z y => by
                      rcases List.mem_cons.mp y with rfl | y
                      · exact pne k hk z
                      · exact newi b y k hk z
                    by_cases q1 : k = i
                    · by_cases q2 : l = i
                      · rw [q1, q2]
                      · rw [if_pos q1] at h1; rw [if_neg q2] at h2
                        exact absurd h1 (ne l q2 h2)
                    · by_cases q2 : l = i
                      · rw [if_neg q1] at h1; rw [if_pos q2] at h2
                        exact absurd h2 (ne k q1 h1)
                      · rw [if_neg q1] at h1; rw [if_neg q2] at h2
                        exact S.dj k l b h1 h2
                  · have h1 : b ∈ if k = i then p :: fps' else fp k := h1
                    by_cases q : k = i
                    · rw [if_pos q] at h1
                      rcases List.mem_cons.mp h1 with rfl | z
                      · exact .inl (Oi _ List.mem_cons_self)
                      · exact .inr z
                    · rw [if_neg q] at h1
                      exact .inl (S.fo k b h1)
                  · rcases hb with hb | hb
                    · by_cases q : b = p
                      · subst q; exact ⟨_, hp2, .inl ⟨_, rfl⟩⟩
                      · obtain ⟨o, ho, h2⟩ := S.own b hb
                        exact ⟨o, kp2 b o q ho, h2⟩
                    · exact RTs.own ts' acc' fps' rp2 b hb
                  · rcases hb with hb | hb
                    · exact S.nw b hb
                    · rcases new0 b hb with z | z
                      · exact S.nw b z
                      · exact Exn.back S.ex z
                  · exact kp2 b o (fun z => by rw [z, Fp] at ho; cases ho) (S.ex _ _ ho)
                  · exact nv_set (show noV (.ol ts') = true from scls_noV ts' scl') S.nv
                have S2 := S1.put (t := .d tree) (v := v) j [] List.nodup_nil (fun _ z => by cases z) (fun _ _ _ z => by cases z) ⟨rfl, Rp.tups (fun b xs hb => S1.toStt.tup hb) tree v lft rv2⟩ (by rw [List.length_set]; exact c3) rfl
                exact h _ H2 _ _ S2 gx
          · rw [if_neg hs] at h; exact h.elim
      · exact h.elim
    · exact h.elim
  · exact h.elim
end
section
variable {X : Cx} {Wx : WX} {cl : Str → Addr} {dSh dNx dWt : Den}
theorem ss_callw {n a i j k k0 : Nat} {fa : En → Rs Tr} {x y : Str} {p pos pos' spos : Pos} {e1 e2 e3 : Expr} (cc : CalS X.prog X.w X.K X.mg X.base x k (spW dSh dNx dWt X.K n)) (tk : Takes X Wx) (hr : Room k0 X.A) (hk : k ≤ k0) (hg : Gl X x)
    (hN : X.N.Nodup) (hi : X.N[j]? = some y) (hx : Loc X.env.scope y) (h1 : PE X e1 (tVar a)) (h2 : Snd X (wOf cl Wx) e2 fa) (h3 : PE X e3 (tVar i)) (hdb : (x == ("__debug__" : Str)) = false := by decide)
    (s1 : starEach [e1, e2, e3] X.env = (false, eval e1 X.env) :: starEach [e2, e3] X.env := by rfl) (s2 : starEach [e2, e3] X.env = (false, eval e2 X.env) :: starEach [e3] X.env := by rfl) (s3 : starEach [e3] X.env = (false, eval e3 X.env) :: starEach [] X.env := by rfl)
    (hpl : (backTo pos (starEach [e2, e3] X.env)).any (·.1) = false := by rfl) (hs : swapsWith (.Call (.Name x p) [e1, e2, e3] [] pos) (some (.Name y pos')) spos.line X.env = pure false := by rfl) (hf : X.fn y = true ∨ X.env.scope.names.lookup y = some .local := by first | exact .inl rfl | exact .inr rfl | assumption) :
    SndS X (wOf cl Wx) (.Assign [.Name y pos'] (.Call (.Name x p) [e1, e2, e3] [] pos) spos) (dCallW dSh dNx dWt n a i j fa) :=
  ps_wk (ps_set hN hi hx (pe_cals cc tk hr hk hg (pa_cons h1 (pa_cons h2 (pa_cons h3 pa_nil s3) s2) s1) hdb s1 hpl) hs hf) fun _ _ _ h => ts_callw h
end
end RP
namespace RP
open PySem L2
/-! ### a plain def that calls itself -/
def recD (p n : Nat) (body : Den → DenS) : Nat → Den
  | 0 => fun _ => .no
  | j + 1 => dDef p n (body (recD p n body j))
section
variable {P : Program} {w : World} {K : PySem.W.Frag} {mg : Str → Option Value} {base : Heap} {cl : Str → Addr}
theorem rec_ok {x : Str} {st : Stmt} {f : Addr} {fd : FuncData} {N ps : List Str} {k p n : Nat} {body : Den → DenS} (F : Fun K x x st f fd) (S : FnScope N ps (defScope st)) (hp : ps.length = p) (hn : N.length = n) (g : mg x = some (.ref f)) (b : Binds K fd ps [])
    (hb : ∀ (d : Den) (j : Nat), Cal P w K mg base cl x (k + j + 1) d → ∀ (cdv : Value) (A : Around) (outer : List Env) (s : Shared) (H : Hp) (E : XK), Room (k + j + 1) (A.deeper (PyProof.Rows.envOfC x (defScope st) s.heap.objs.size f cdv)) →
      SndB (cxOf (L2.CX P w) P w K mg base N x (defScope st) f cdv A outer s H E) (wOf cl (fun c d _ H' => E c d H')) (defBody st) (body d)) :
    ∀ j, Cal P w K mg base cl x (k + j + 1) (recD p n body j)
  | 0 => by
    refine ⟨f, fd, ps, F.okX S (fun vs H Q E h => ?_) fun cdv A outer s H vs Q E hr h => ?_, g, F.kp, b⟩
    · obtain ⟨ts, _, _, h⟩ := h
      exact h.elim
    · obtain ⟨ts, _, _, h⟩ := h
      exact h.elim
  | j + 1 => ⟨f, fd, ps, fn_okX (k := k + j + 1) F S hp hn fun cdv A outer s H E hr => hb _ j (rec_ok F S hp hn g b hb j) cdv A outer s H E hr, g, F.kp, b⟩
end
/-! ### parts handed back -/
def dRetTwo (s : Str) (i : Nat) : DenS := fun en => match en[i]? with
  | some (some (.ol [t0, t1])) => .rt (.tp [.d (.str s), t0, t1]) (en.set i none)
  | _ => .no
def dRetOne (s : Str) (i j : Nat) : DenS := fun en => match en[i]?, en[j]? with
  | some (some (.ol [t0])), some (some (.d x)) => .rt (.tp [.d (.str s), t0, .d x]) (en.set i none)
  | _, _ => .no
section
variable {K : PySem.W.Frag} {W : WW} {F H H' : Hp} {en : En} {σ : L2.St} {fp : Nat → List Addr} {O : Addr → Prop} {D : Ends}
theorem StS.hush (S : StS K F en σ H fp O) (j : Nat) : StS K F (en.set j none) σ H (fun i => if i = j then [] else fp i) O := ⟨S.toStt.hush j, fun i t h => by
  by_cases q : i = j
  · subst q
    by_cases hi : i < en.length
    · rw [List.getElem?_set_self hi] at h; cases h
    · rw [List.getElem?_eq_none (by rw [List.length_set]; omega)] at h; cases h
  · rw [List.getElem?_set_ne (Ne.symm q)] at h
    exact S.nv i t h⟩
theorem hand_back {s : Str} {i : Nat} {p : Addr} {fps : List Addr} {us : List Tr} {ws : List V} {en' : En} (S : StS K F en σ H fp O) (efp : fp i = p :: fps) (hq : RTs K (gh F O H) H F us ws fps) (he : en' = en.set i none)
    (h : Po K W D F (gh F O H) (.rt (.tp (.d (.str s) :: us)) en')) (hl : ws.length ≤ 1000) : ((V.str s :: ws).length ≤ sizeLine ∧ ∀ t, H t = none → D.rt (.ref t) (upd H t (.tup (.str s :: ws)))) := by
  refine ⟨by rw [List.length_cons]; unfold sizeLine; omega, fun t ht => ?_⟩
  have e := Exn.new (o := .tup (.str s :: ws)) ht
  have S' := (S.grow e).hush i
  rw [← he] at S'
  have nO : ¬ O t := S.toStt.fresh ht
  have hm : ∀ b ∈ fps, b ∈ fp i := fun b hb => by rw [efp]; exact List.mem_cons_of_mem _ hb
  refine h (.ref t) σ _ _ O fps S' (gh_grow e) ?_ (fun b hb => S.fo i b (hm b hb)) (fun k b hb z => ?_) ⟨t, .str s :: ws, rfl, gh_tup upd_same nO, .str s, ws, [], fps, rfl, rfl, ⟨rfl, rfl⟩, RTs.mono (gh_grow e) e (Exn.refl _) us ws fps hq⟩
  · have := S.nd i
    rw [efp] at this
    exact (List.nodup_cons.mp this).2
  · have z : b ∈ if k = i then [] else fp k := z
    by_cases q : k = i
    · rw [if_pos q] at z; cases z
    · rw [if_neg q] at z
      exact q (S.dj k i b z (hm b hb))
theorem ts_ret2 {s : Str} {i : Nat} (h : tS K W (dRetTwo s i) D σ H) : tRet (tTup (tCons (tC (.str s)) (tCons (tOp (rIx K) (tVar i) (tC (.int 0))) (tCons (tOp (rIx K) (tVar i) (tC (.int 1))) tNil)))) D σ H := by
  obtain ⟨F, en, fp, O, S, h⟩ := h
  unfold dRetTwo at h
  split at h
  · rename_i t0 t1 qi
    obtain ⟨v, hv, p, vs, fps, rfl, efp, hp, rts⟩ := S.sl i _ qi
    obtain ⟨v0, vs1, f0, g1, rfl, rfl, r0, v1, vs2, f1, g2, rfl, rfl, r1, rfl, rfl⟩ := rts
    refine ⟨.ref p, hv, .inl ⟨p, [v0, v1], 0, v0, rfl, rfl, .inl (.inl hp), rfl, ?_⟩⟩
    refine ⟨.ref p, hv, .inl ⟨p, [v0, v1], 1, v1, rfl, rfl, .inl (.inl hp), rfl, ?_⟩⟩
    exact hand_back (us := [t0, t1]) S efp ⟨v0, [v1], f0, f1 ++ [], rfl, rfl, r0, v1, [], f1, [], rfl, rfl, r1, rfl, rfl⟩ rfl h (by simp)
  · exact h.elim
theorem ts_ret1 {s : Str} {i j : Nat} (h : tS K W (dRetOne s i j) D σ H) : tRet (tTup (tCons (tC (.str s)) (tCons (tOp (rIx K) (tVar i) (tC (.int 0))) (tCons (tVar j) tNil)))) D σ H := by
  obtain ⟨F, en, fp, O, S, h⟩ := h
  unfold dRetOne at h
  split at h
  · rename_i t0 x qi qj
    obtain ⟨v, hv, p, vs, fps, rfl, efp, hp, rts⟩ := S.sl i _ qi
    obtain ⟨v0, vs1, f0, g1, rfl, rfl, r0, rfl, rfl⟩ := rts
    obtain ⟨w, hw, _, rx⟩ := S.sl j _ qj
    refine ⟨.ref p, hv, .inl ⟨p, [v0], 0, v0, rfl, rfl, .inl (.inl hp), rfl, ?_⟩⟩
    refine ⟨w, hw, ?_⟩
    exact hand_back (us := [t0, .d x]) S efp ⟨v0, [w], f0, [], rfl, rfl, r0, w, [], [], [], rfl, rfl, ⟨rfl, rx⟩, rfl, rfl⟩ rfl h (by simp)
  · exact h.elim
end
section
variable {X : Cx} {W : WW}
theorem ss_ret2 {s : Str} {i : Nat} {a b c : Expr} {x1 : Nat} {pos spos : Pos} (ha : PE X a (tC (.str s))) (hb : PE X b (tOp (rIx X.K) (tVar i) (tC (.int 0)))) (hc : PE X c (tOp (rIx X.K) (tVar i) (tC (.int 1))))
    (s1 : starEach [a, b, c] X.env = (false, eval a X.env) :: starEach [b, c] X.env := by rfl) (s2 : starEach [b, c] X.env = (false, eval b X.env) :: starEach [c] X.env := by rfl) (s3 : starEach [c] X.env = (false, eval c X.env) :: starEach [] X.env := by rfl) :
    SndS X W (.Return (some (.Tuple [a, b, c] x1 pos)) spos) (dRetTwo s i) := ps_wk (ps_ret (pe_tup (pa_cons ha (pa_cons hb (pa_cons hc pa_nil s3) s2) s1))) fun _ _ _ h => ts_ret2 h
theorem ss_ret1 {s : Str} {i j : Nat} {a b c : Expr} {x1 : Nat} {pos spos : Pos} (ha : PE X a (tC (.str s))) (hb : PE X b (tOp (rIx X.K) (tVar i) (tC (.int 0)))) (hc : PE X c (tVar j))
    (s1 : starEach [a, b, c] X.env = (false, eval a X.env) :: starEach [b, c] X.env := by rfl) (s2 : starEach [b, c] X.env = (false, eval b X.env) :: starEach [c] X.env := by rfl) (s3 : starEach [c] X.env = (false, eval c X.env) :: starEach [] X.env := by rfl) :
    SndS X W (.Return (some (.Tuple [a, b, c] x1 pos)) spos) (dRetOne s i j) := ps_wk (ps_ret (pe_tup (pa_cons ha (pa_cons hb (pa_cons hc pa_nil s3) s2) s1))) fun _ _ _ h => ts_ret1 h
end
/-! ### a def that changes what it was given, and puts it back -/
open Classical in
noncomputable def minus (f : List Addr) (H : Hp) : Hp := fun a => if a ∈ f then none else H a
theorem minus_ex (f : List Addr) (H : Hp) : Exn (minus f H) H := fun a o h => by
  unfold minus at h
  split at h
  · cases h
  · exact h
theorem minus_at {f : List Addr} {H : Hp} {a : Addr} (h : a ∉ f) : minus f H a = H a := by
  unfold minus
  rw [if_neg h]
theorem minus_in {f : List Addr} {H : Hp} {a : Addr} (h : a ∈ f) : minus f H a = none := by
  unfold minus
  rw [if_pos h]
def spO (K : PySem.W.Frag) (body : DenS) (m : Nat) : Sp := fun vs H Q _ => ∃ t0 x v0 v1 f0, vs = [v0, v1] ∧ sclT t0 = true ∧ f0.Nodup ∧ RT K N0 H N0 t0 v0 f0 ∧ Rp (minus f0 H) x v1 ∧
  (∃ en', body (some t0 :: some (.e x) :: List.replicate m none) = .rt (.d (.bool true)) en') ∧ ∀ H', Exn (minus f0 H) H' → Q (.bl true) H'
section
variable {K : PySem.W.Frag} {W : WW} {H : Hp}
theorem body_start {body : DenS} {m : Nat} {N : List Str} {vs : List V} {Q : VK} {E : XK} (h : spO K body m vs H Q E) (hN : N.length = m + 2) : tS K W body { nx := fun _ H' => Q .non H', rt := Q } (start N vs) H := by
  obtain ⟨t0, x, v0, v1, f0, rfl, hs, nd, r0, r1, ⟨en', hb⟩, hQ⟩ := h
  have own := RT.own t0 v0 f0 r0
  refine ⟨minus f0 H, some t0 :: some (.e x) :: List.replicate m none, fun i => if i = 0 then f0 else [], fun a => a ∈ f0, ⟨⟨?_, fun i t q => ?_, fun i => ?_, fun i j a h1 h2 => ?_, fun i a h1 => ?_, own, fun a ha => minus_in ha, minus_ex f0 H⟩, fun i t q => ?_⟩, ?_⟩
  · unfold L2.start
    simp [hN]
  · match i, q with
    | 0, q =>
      cases q
      exact ⟨v0, rfl, scl_move t0 v0 f0 hs (fun _ _ => rfl) r0⟩
    | 1, q =>
      cases q
      exact ⟨v1, rfl, rfl, r1⟩
    | i + 2, q =>
      obtain ⟨_, z⟩ := List.mem_replicate.mp (List.mem_of_getElem? (show (List.replicate m none)[i]? = some (some t) from q))
      cases z
  · show (if i = 0 then f0 else []).Nodup
    split
    · exact nd
    · exact List.nodup_nil
  · have h1 : a ∈ if i = 0 then f0 else [] := h1
    have h2 : a ∈ if j = 0 then f0 else [] := h2
    by_cases q1 : i = 0
    · by_cases q2 : j = 0
      · rw [q1, q2]
      · rw [if_neg q2] at h2; cases h2
    · rw [if_neg q1] at h1; cases h1
  · have h1 : a ∈ if i = 0 then f0 else [] := h1
    split at h1
    · exact h1
    · cases h1
  · match i, q with
    | 0, q => cases q; exact scl_noV t0 hs
    | 1, q => cases q; rfl
    | i + 2, q =>
      obtain ⟨_, z⟩ := List.mem_replicate.mp (List.mem_of_getElem? (show (List.replicate m none)[i]? = some (some t) from q))
      cases z
  · rw [hb]
    intro v σ H' fp O fq S _ _ _ _ r
    have r : fq = [] ∧ v = .bl true := r
    rw [r.2]
    exact hQ H' S.ex
end
section
variable {P : Program} {w : World} {K : PySem.W.Frag} {mg : Str → Option Value} {base : Heap} {cl : Str → Addr}
theorem own_ok {x : Str} {st : Stmt} {f : Addr} {fd : FuncData} {N ps : List Str} {k m : Nat} {body : DenS} (F : Fun K x x st f fd) (S : FnScope N ps (defScope st)) (hp : ps.length = 2) (hn : N.length = m + 2) (g : mg x = some (.ref f)) (b : Binds K fd ps [])
    (hb : ∀ (cdv : Value) (A : Around) (outer : List Env) (s : Shared) (H : Hp) (E : XK), Room k (A.deeper (PyProof.Rows.envOfC x (defScope st) s.heap.objs.size f cdv)) →
      SndB (cxOf (L2.CX P w) P w K mg base N x (defScope st) f cdv A outer s H E) (wOf cl (fun c d _ H' => E c d H')) (defBody st) body) : CalS P w K mg base x (k + 1) (spO K body m) :=
  ⟨f, fd, ps, F.okX S (fun vs H Q E h => by
    obtain ⟨_, _, _, _, _, rfl, _⟩ := h
    exact hp.symm) fun cdv A outer s H vs Q E hr h => ⟨_, hb cdv A outer s H E hr, body_start h hn⟩, g, F.kp, b⟩
end
/-! ### return c and f(xs[k], [..]) -/
def oth (ts : List Tr) : Option Nat → Option PyData
  | none => some (.list [])
  | some k2 => match ts[k2]? with
    | some u => if sclT u then (data u).map fun x => .list [x] else none
    | none => none
def dRetOwn (body : DenS) (m i k : Nat) (ko : Option Nat) (fa : En → Rs Tr) : DenS := fun en => onR (dB fa en) en fun b => if b then (match en[i]? with
  | some (some (.tp ts)) => (match ts[k]?, oth ts ko with
    | some t0, some x => if sclT t0 && decide (ko ≠ some k) then (match body (some t0 :: some (.e x) :: List.replicate m none) with
      | .rt (.d (.bool true)) _ => .rt (.d (.bool true)) (List.replicate en.length none)
      | _ => .no) else .no
    | _, _ => .no)
  | _ => .no) else .no
def tOth (K : PySem.W.Frag) (i : Nat) : Option Nat → TA
  | none => tNil
  | some k2 => tCons (tOp (rIx K) (tVar i) (tC (.int (k2 : Int)))) tNil
theorem RTs.get2 {K : PySem.W.Frag} {G H F : Hp} : ∀ {ts : List Tr} {vs : List V} {fp : List Addr} {i j : Nat} {t u : Tr}, RTs K G H F ts vs fp → fp.Nodup → i ≠ j → ts[i]? = some t → ts[j]? = some u → ∃ v w f g, vs[i]? = some v ∧ vs[j]? = some w ∧ RT K G H F t v f ∧ RT K G H F u w g ∧ f.Sublist fp ∧ g.Sublist fp ∧ ∀ a ∈ f, a ∉ g
  | [], _, _, _, _, _, _, _, _, _, e, _ => by simp at e
  | x :: ts, _, _, 0, 0, _, _, _, _, ne, _, _ => absurd rfl ne
  | x :: ts, _, _, 0, j + 1, t, u, ⟨v, vs', f1, f2, rfl, rfl, e3, e4⟩, nd, _, h1, h2 => by
    have h1 : x = t := by simpa using h1
    subst h1
    obtain ⟨w, g, g1, g2, g3⟩ := RTs.get (i := j) (t := u) e4 (by simpa using h2)
    refine ⟨v, w, f1, g, rfl, by simpa using g1, e3, g3, List.sublist_append_left _ _, g2.trans (List.sublist_append_right _ _), fun a ha hb => ?_⟩
    exact (List.nodup_append.mp nd).2.2 a ha a (g2.subset hb) rfl
  | x :: ts, _, _, i + 1, 0, t, u, ⟨v, vs', f1, f2, rfl, rfl, e3, e4⟩, nd, _, h1, h2 => by
    have h2 : x = u := by simpa using h2
    subst h2
    obtain ⟨w, g, g1, g2, g3⟩ := RTs.get (i := i) (t := t) e4 (by simpa using h1)
    refine ⟨w, v, g, f1, by simpa using g1, rfl, g3, e3, g2.trans (List.sublist_append_right _ _), List.sublist_append_left _ _, fun a ha hb => ?_⟩
    exact (List.nodup_append.mp nd).2.2 a hb a (g2.subset ha) rfl
  | x :: ts, _, _, i + 1, j + 1, t, u, ⟨v, vs', f1, f2, rfl, rfl, e3, e4⟩, nd, ne, h1, h2 => by
    obtain ⟨w, z, f, g, a1, a2, a3, a4, a5, a6, a7⟩ := RTs.get2 (i := i) (j := j) (t := t) (u := u) e4 (List.nodup_append.mp nd).2.1 (by omega) (by simpa using h1) (by simpa using h2)
    exact ⟨w, z, f, g, by simpa using a1, by simpa using a2, a3, a4, a5.trans (List.sublist_append_right _ _), a6.trans (List.sublist_append_right _ _), a7⟩
section
variable {K : PySem.W.Frag} {W : WW} {F H H' : Hp} {en : En} {σ : L2.St} {fp : Nat → List Addr} {O : Addr → Prop} {D : Ends}
theorem own_call {body : DenS} {m : Nat} {t0 : Tr} {x : PyData} {v0 v1 : V} {f0 : List Addr} {en' : En} {E : XK} (S : StS K F en σ H fp O) (hs : sclT t0 = true) (nd : f0.Nodup) (sub : ∀ a ∈ f0, O a) (r0 : RT K N0 H' N0 t0 v0 f0) (e : Exn H H') (r1 : Rp (minus f0 H') x v1)
    (hb : body (some t0 :: some (.e x) :: List.replicate m none) = .rt (.d (.bool true)) en') (h : Po K W D F (gh F O H) (.rt (.d (.bool true)) (List.replicate en.length none))) : spO K body m [v0, v1] H' D.rt E := by
  refine ⟨t0, x, v0, v1, f0, rfl, hs, nd, r0, r1, ⟨en', hb⟩, fun H2 e2 => ?_⟩
  have kp : ∀ a o, a ∉ f0 → H a = some o → H2 a = some o := fun a o na ho => e2 a o (by rw [minus_at na]; exact e a o ho)
  have S2 : StS K F (List.replicate en.length none) σ H2 (fun _ => []) (fun a => O a ∧ a ∉ f0) := by
    have no : ∀ (i : Nat) (t : Tr), (List.replicate en.length none : En)[i]? = some (some t) → False := fun i t q => by
      obtain ⟨_, z⟩ := List.mem_replicate.mp (List.mem_of_getElem? q)
      cases z
    refine ⟨⟨by rw [List.length_replicate]; exact S.len, fun i t q => (no i t q).elim, fun _ => List.nodup_nil, fun i j a q => (by cases q), fun i a q => (by cases q), fun a ha => ?_, fun a ha => S.nw a ha.1, fun a o ho => ?_⟩, fun i t q => (no i t q).elim⟩
    · obtain ⟨o, h1, h2⟩ := S.own a ha.1
      exact ⟨o, kp a o ha.2 h1, h2⟩
    · exact kp a o (fun z => by rw [S.nw a (sub a z)] at ho; cases ho) (S.ex a o ho)
  exact h (.bl true) σ H2 _ _ [] S2 (gh_mono (fun a o nO ho => kp a o (fun z => nO (sub a z)) ho) fun a ha => .inl ha.1) List.nodup_nil (fun _ q => by cases q) (fun _ _ q => by cases q) ⟨rfl, rfl⟩
theorem ts_retown {body : DenS} {m i k : Nat} {ko : Option Nat} {fa : En → Rs Tr} {E : L2.St → XK} (h : tS K W (dRetOwn body m i k ko fa) D σ H) :
    tRet (tAndV (tM K W fa) (tCallS (spO K body m) E (tCons (tOp (rIx K) (tVar i) (tC (.int (k : Int)))) (tCons (tLst (tOth K i ko)) tNil)))) D σ H := by
  obtain ⟨F, en, fp, O, S, h⟩ := h
  refine tb_of (f := fa) ⟨F, en, fp, O, S.toStt, ?_⟩
  unfold dRetOwn at h
  cases e : dB fa en with
  | er c => rw [e] at h; exact fun H' e1 => h σ H' fp O (S.grow e1) (gh_grow e1)
  | no => rw [e] at h; exact h
  | ok b =>
    rw [e] at h
    intro H1 e1
    cases b with
    | false => exact h.elim
    | true =>
      simp only [onR_ok, if_true] at h ⊢
      have S1 := S.grow e1
      replace h := Po.later h (gh_grow e1)
      split at h
      · rename_i ts qi
        split at h
        · rename_i t0 x qk qo
          split at h
          · rename_i hc
            rw [Bool.and_eq_true, decide_eq_true_eq] at hc
            split at h
            · rename_i en' hb
              obtain ⟨v, hv, p, vs, rfl, hp, rts⟩ := S1.sl i _ qi
              have hp1 : H1 p = some (.tup vs) := (gh_some hp).2.1
              have hl := rts.length
              have ati : ∀ (n : Nat) (y : V), vs[n]? = some y → atI vs (n : Int) = some y := fun n y hy => by rw [RP.atI_nat]; exact hy
              have ndi := S1.nd i
              cases ko with
              | none =>
                have qo : some (PyData.list []) = some x := qo
                cases qo
                obtain ⟨v0, f0, hk, hsub, r0⟩ := RTs.get rts qk
                refine ⟨.ref p, hv, .inr (.inl ⟨p, vs, (k : Int), v0, rfl, rfl, .inl (.inl hp1), ati k v0 hk, ?_⟩)⟩
                refine ⟨by unfold sizeLine; simp, fun l hl0 => ?_⟩
                have e2 := Exn.new (o := .lst []) hl0
                have own0 := RT.own t0 v0 f0 r0
                have lf0 : l ∉ f0 := fun z => by
                  obtain ⟨o, ho, _⟩ := own0 l z
                  rw [hl0] at ho; cases ho
                exact own_call (x := .list []) (E := E σ) S1 hc.1 (hsub.nodup ndi) (fun a ha => S1.fo i a (hsub.subset ha)) (scl_move t0 v0 f0 hc.1 (fun a ha => by
                  obtain ⟨o, ho, _⟩ := own0 a ha
                  rw [ho, e2 a o ho]) r0) e2 ⟨l, [], rfl, by rw [minus_at lf0]; exact upd_same, rfl⟩ hb h
              | some k2 =>
                have hne : k ≠ k2 := fun z => hc.2 (by rw [z])
                have qo : (match ts[k2]? with
                  | some u => if sclT u then (data u).map fun x => PyData.list [x] else none
                  | none => none) = some x := qo
                cases qu : ts[k2]? with
                | none => rw [qu] at qo; cases qo
                | some u =>
                  rw [qu] at qo
                  simp only at qo
                  by_cases hsu : sclT u = true
                  · rw [if_pos hsu] at qo
                    obtain ⟨y, hy, rfl⟩ := Option.map_eq_some_iff.mp qo
                    obtain ⟨v0, v2, f0, g0, hk, hk2, r0, r2, hsub, hsub2, dis⟩ := RTs.get2 rts ndi hne qk qu
                    refine ⟨.ref p, hv, .inr (.inl ⟨p, vs, (k : Int), v0, rfl, rfl, .inl (.inl hp1), ati k v0 hk, ?_⟩)⟩
                    refine ⟨.ref p, hv, .inr (.inl ⟨p, vs, (k2 : Int), v2, rfl, rfl, .inl (.inl hp1), ati k2 v2 hk2, ?_⟩)⟩
                    refine ⟨by unfold sizeLine; simp, fun l hl0 => ?_⟩
                    have e2 := Exn.new (o := .lst [v2]) hl0
                    have own0 := RT.own t0 v0 f0 r0
                    have lf0 : l ∉ f0 := fun z => by
                      obtain ⟨o, ho, _⟩ := own0 l z
                      rw [hl0] at ho; cases ho
                    have ry : Rp (minus f0 (upd H1 l (.lst [v2]))) y v2 := RT.data (fun a o h => by cases h) (fun a o h => by cases h) u v2 g0 y (scl_move (F' := N0) (G' := N0) u v2 g0 hsu (fun a ha => by
                      obtain ⟨o, ho, _⟩ := RT.own u v2 g0 r2 a ha
                      rw [minus_at (fun z => dis a z ha), ho, e2 a o ho]) r2) hy
                    exact own_call (x := .list [y]) (E := E σ) S1 hc.1 (hsub.nodup ndi) (fun a ha => S1.fo i a (hsub.subset ha)) (scl_move t0 v0 f0 hc.1 (fun a ha => by
                      obtain ⟨o, ho, _⟩ := own0 a ha
                      rw [ho, e2 a o ho]) r0) e2 ⟨l, [v2], rfl, by rw [minus_at lf0]; exact upd_same, ⟨v2, [], rfl, ry, rfl⟩⟩ hb h
                  · rw [if_neg hsu] at qo; cases qo
            · exact h.elim
          · exact h.elim
        · exact h.elim
      · exact h.elim
end
end RP
namespace RP
open PySem L2
section
variable {X : Cx} {Wx : WX} {cl : Str → Addr}
theorem ss_retown {body : DenS} {m i k kk k0 : Nat} {ko : Option Nat} {fa : En → Rs Tr} {x : Str} {p pos pos2 spos : Pos} {a e1 e2 : Expr} (cc : CalS X.prog X.w X.K X.mg X.base x kk (spO X.K body m)) (tk : Takes X Wx) (hr : Room k0 X.A) (hk : kk ≤ k0) (hg : Gl X x)
    (ha : Snd X (wOf cl Wx) a fa) (h1 : PE X e1 (tOp (rIx X.K) (tVar i) (tC (.int (k : Int))))) (h2 : PE X e2 (tLst (tOth X.K i ko))) (hdb : (x == ("__debug__" : Str)) = false := by decide)
    (s1 : starEach [e1, e2] X.env = (false, eval e1 X.env) :: starEach [e2] X.env := by rfl) (s2 : starEach [e2] X.env = (false, eval e2 X.env) :: starEach [] X.env := by rfl) (hpl : (backTo pos (starEach [e2] X.env)).any (·.1) = false := by rfl) :
    SndS X (wOf cl Wx) (.Return (some (.BoolOp .And [a, .Call (.Name x p) [e1, e2] [] pos] pos2)) spos) (dRetOwn body m i k ko fa) :=
  ps_wk (ps_ret (pe_and ha (pe_one (pe_cals cc tk hr hk hg (pa_cons h1 (pa_cons h2 pa_nil s2) s1) hdb s1 hpl)))) fun _ _ _ h => ts_retown h
end
end RP
namespace RP
open PySem L2
/-- as it stands just now -/
def dView (fa : En → Rs Tr) : En → Rs Tr := fun en => (fa en).bind fun t => Rs.of ((data t).map Tr.v)
theorem tm_view {K : PySem.W.Frag} {W : WW} {fa : En → Rs Tr} {σ : L2.St} {H : Hp} {Q : VK} (h : tM K W (dView fa) σ H Q) : tM K W fa σ H Q := by
  obtain ⟨F, en, fp, O, S, h⟩ := h
  refine ⟨F, en, fp, O, S, ?_⟩
  unfold dView at h
  cases e : fa en with
  | er c => rw [e] at h; exact h
  | no => rw [e] at h; exact h
  | ok t =>
    rw [e] at h
    simp only [Rs.bind_ok'] at h
    cases q : data t with
    | none => rw [q] at h; exact h.elim
    | some x =>
      rw [q] at h
      intro v H' ⟨e1, fq, nd, fr, rt⟩
      exact h v H' ⟨e1, [], List.nodup_nil, (fun _ z => by cases z), rfl, RT.data gh_sub (S.ex.trans e1) t v fq x rt q⟩
theorem sn_view {X : Cx} {W : WW} {e : Expr} {fa : En → Rs Tr} (h : Snd X W e fa) : Snd X W e (dView fa) := pe_wk h fun _ _ _ h => tm_view h
end RP
namespace RP
open PySem PySem.Spec PyProof.Rows L2
section
variable {X : Cx} {W : WX} {pins : List (Addr × Obj)} {σ : L2.St} {H : Hp} {s s' : Shared} {E : XK} {C : Addr} {ce : Env} {Ex : Value → Shared → Prop}
/-- what a comprehension's block owes when an exception has come out of it -/
def ErrEnd (X : Cx) (ce : Env) (C : Addr) (x : Value) (s' : Shared) : Prop :=
  ∃ m, s'.heap.Ns C m ∧ ∀ h', Heap.SameBut C s'.heap h' → wpAny (model X.prog X.w) X.A (PySem.passOn "comprehension.variables-let-go" x ce : Sem Value) (fun _ _ => False) X.xe { s' with heap := h' }
theorem exc_end (I : Inv X pins σ H s) (tk : Takes X W) (hs : X.stack = X.env :: X.outer) (hf : X.env.frame = some X.env.locals) (hce : ce.frame = X.env.frame) (hW : ∀ cls d H', E cls d H' → W cls d σ H')
    (hC : FpOk X pins H C) (hn : ∃ m, s.heap.Ns C m) {u : Value} (c : L2.CX X.prog X.w X.stack H s E u s') :
    wpAny (model X.prog X.w) X.A (noteFrame u ce) (fun _ s'' => ErrEnd X ce C u s'') Ex s' := by
  obtain ⟨a, B, H', cls, d, rfl, fl, hok, ub, na, os, ag, hE⟩ := c
  obtain ⟨m, oC, es, ep, hoC, hrC⟩ := hn
  obtain ⟨c0, c1, c2, c3, c4, c5⟩ := hC
  have hfr : X.A.frames = some (X.env :: X.outer) := by rw [I.ok.frames, hs]
  have Cst : C ∉ frs X.stack := fun z => (List.mem_cons.mp (I.stkSub C z)).elim c1 c2
  have BC : B.get? C = some oC := ub.keep C oC hoC c0 Cst
  have nC' : H' C = none := ub.free C oC hoC c0
  have e0 : noteFrame (.ref a) ce = noteFrame (.ref a) X.env := by
    unfold noteFrame PySem.frameOf
    rw [hce]
  rw [e0]
  rw [hs] at fl
  refine HandSPX.looks_onZ Zc.steady hfr hf fl fun h1 hh1 up1 => ?_
  refine ⟨m, ⟨oC, es, ep, hh1.1 _ _ BC, hrC⟩, fun h2 sb => ?_⟩
  -- the ground without C
  have sub : ∀ b o, (PySem.W.hideAll B [C]).get? b = some o → B.get? b = some o ∧ b ≠ C := fun b o e => ⟨PySem.W.of_hideAll _ e, fun z => by
    rw [z, PySem.W.hideAll_none [C] (List.mem_singleton.mpr rfl)] at e; cases e⟩
  have has : ∀ b o, B.get? b = some o → b ≠ C → (PySem.W.hideAll B [C]).get? b = some o := fun b o e nb => PySem.W.hideAll_get _ e fun z => nb (List.mem_singleton.mp z)
  have none2 : ∀ b, B.get? b = none → (PySem.W.hideAll B [C]).get? b = none := fun b e => by
    cases q : (PySem.W.hideAll B [C]).get? b with
    | none => rfl
    | some o => rw [(sub b o q).1] at e; cases e
  obtain ⟨k1, k2, k3, oe, vs, T, oT, ts, he, hz, hd, hv1, hnT, hTe, hT, hdT, h3⟩ := hh1
  have aC : a ≠ C := fun z => by rw [z, BC] at k2; cases k2
  have TC : T ≠ C := fun z => by rw [z, BC] at hnT; cases hnT
  have at2 : ∀ b, b ≠ C → h2.get? b = h1.get? b := fun b nb => sb.2 b nb
  have ff : ∀ l : List Env, h1.FunFrames B l → h2.FunFrames (PySem.W.hideAll B [C]) l := fun l => by
    induction l with
    | nil => intro _; trivial
    | cons env l ih =>
      intro hl
      obtain ⟨hk, ⟨L, o, hf', hb, ho, hd'⟩, hr⟩ := hl
      have LC : L ≠ C := fun z => by rw [z, BC] at hb; cases hb
      exact ⟨hk, ⟨L, o, hf', none2 L hb, (at2 L LC).trans ho, hd'⟩, ih hr⟩
  have hh2 : HandSPX.HeldZ (PySem.W.hideAll B [C]) (X.env :: X.outer) a (Zc cls d) X.env.locals h2 :=
    ⟨fun b o e => (at2 b (sub b o e).2).trans (k1 b o (sub b o e).1), none2 a k2, ff _ k3, oe, vs, T, oT, ts, (at2 a aC).trans he, hz, hd, hv1, none2 T hnT, hTe, (at2 T TC).trans hT, hdT, h3⟩
  unfold PySem.passOn
  refine wpAny_bind (wpAny_field ((at2 a aC).trans he) hd hv1 ?_)
  rw [if_neg (show ¬ ((Value.ref T == Value.none) = true) from by simp)]
  rw [hce, hf]
  refine wpAny_bind (HandSPX.setFlight_onZ hh2 fun h3 hh3 up3 => wpAny_throw (tk _ _ ?_))
  -- in our air
  obtain ⟨G, g1, g2⟩ := restrict h3 fun b => ((PySem.W.hideAll B [C]).get? b).isSome || decide (b ∈ frs X.stack)
  have st : (PySem.W.hideAll B [C]).StaysIn h3 := hh3.1
  have gB : ∀ b o, (PySem.W.hideAll B [C]).get? b = some o → G.get? b = some o := fun b o e => by
    rw [g1 b (by simp [e])]
    exact st b o e
  have gF : ∀ b, b ∈ frs X.stack → G.get? b = h3.get? b := fun b hb => g1 b (by simp [hb])
  have og : ∀ b o, G.get? b = some o → h3.get? b = some o ∧ (((PySem.W.hideAll B [C]).get? b).isSome = true ∨ b ∈ frs X.stack) := fun b o e => by
    cases q : (((PySem.W.hideAll B [C]).get? b).isSome || decide (b ∈ frs X.stack)) with
    | false => rw [g2 b q] at e; cases e
    | true =>
      rw [g1 b q] at e
      exact ⟨e, by simpa [Bool.or_eq_true] using q⟩
  have nf : ∀ b ∈ frs X.stack, ∀ o, s.heap.get? b = some o → ∀ vs, o.data ≠ .fields vs := fun b hb o e => by
    obtain ⟨_, o', e', hd'⟩ := I.stack.mem hb
    rw [e] at e'; cases e'
    exact hd'
  have frm : ∀ b o, s.heap.get? b = some o → b ∈ frs X.stack → ∃ sl, G.get? b = some { o with slots := sl } := fun b o e hb => by
    obtain ⟨sl, q⟩ := ub.slot b o e hb
    have hd' := nf b hb o e
    obtain ⟨sl1, q1⟩ := up1 b _ q hd'
    have q2 : h2.get? b = some { o with slots := sl1 } := (at2 b (fun z => Cst (by rw [← z]; exact hb))).trans q1
    obtain ⟨sl3, q3⟩ := up3 b _ q2 hd'
    exact ⟨sl3, by rw [gF b hb]; exact q3⟩
  refine ⟨a, PySem.W.hideAll B [C], { s with heap := G, gens := s'.gens, drawn := s'.drawn, toks := s'.toks }, pins, σ, H', cls, d, rfl, ?_, fun b o e hb => ?_, Heap.UpToSlots.of_keeps fun b o e => (og b o e).1, .inr (.inr (by rw [hs]; exact hh3)), na, os, ag, hW _ _ _ hE⟩
  · refine I.call (ch := [C]) ⟨fun b o e n hb hc => gB b o (has b o (ub.keep b o e n hb) fun z => hc (List.mem_singleton.mpr z)), fun b o e n hb _ => frm b o e hb, fun b o e n _ => ub.free b o e n, fun b o e hc => ?_, ub.tups, ub.frzs, ub.tbls⟩ (fun b u e => ?_) ag (fun b hb => ?_)
    · by_cases hb : b ∈ frs X.stack
      · obtain ⟨sl, q⟩ := frm b o e hb
        exact ⟨_, q⟩
      · obtain ⟨o', q⟩ := ub.there b o e hb
        exact ⟨o', gB b o' (has b o' q fun z => hc (List.mem_singleton.mpr z))⟩
    · have nit : ∀ b u, H' b = some u → b ≠ C := fun b u e z => by rw [z, nC'] at e; cases e
      refine (hok b u e).stay (fun c v hc q => gB c v (has c v q ?_)) (fun _ q => q) fun _ _ q => q
      rcases hc with z | z
      · rw [z]; exact nit b u e
      · exact nit c _ z
    · have e : b = C := List.mem_singleton.mp hb
      subst e
      exact ⟨c3, c1, c4, c5⟩
  · obtain ⟨e', h⟩ := og b o e
    rcases h with h | h
    · obtain ⟨o', q⟩ := Option.isSome_iff_exists.mp h
      have z := st b o' q
      rw [e'] at z; cases z
      exact q
    · exact absurd h hb
end
end RP
namespace RP
open PySem PySem.Spec PyProof.Rows L2
/-- a comprehension, its value asked for, its exceptions passed on -/
theorem comp_E {M : Model} {A : Around} {E : Value → Shared → Prop} {s : Shared} {env : Env} {e : Expr} {scope : Scope} {pos : Pos} {newAcc first : Sem Value} {g : Comprehension} {gs : List Comprehension} {cl : List (Str × Addr)} {Q : Value → Shared → Prop}
    (hcl : clausesOf e = g :: gs) (hs : ∀ x, foldedSetIterable g.iter env x = pure x) (hclos : closureFor scope env = pure cl) (hkind : scope.kind = .function) (hnames : ∀ x ∈ scope.names, x.2 = .local → scope.names.lookup x.1 = some .local)
    (h : wpAny M A first (fun x s₁ => wpAny M A (pyIter x) (fun it s₂ => wpAny M A newAcc (fun acc s₃ => wpAny M A (newFunctionEnv scope env.globals cl [] env.qual none .none (some env)) (fun cenv s₄ =>
      codeAny M A (.compStart e 0 it acc { cenv with scope := relabel scope env }) (fun r s' => match r with
        | .ok _ => ∃ m, s'.heap.Ns cenv.locals m ∧ ∀ h', Heap.SameBut cenv.locals s'.heap h' → Q acc { s' with heap := h' }
        | .error x => ∃ m, s'.heap.Ns cenv.locals m ∧ ∀ h', Heap.SameBut cenv.locals s'.heap h' → wpAny M A (PySem.passOn "comprehension.variables-let-go" x cenv : Sem Value) (fun _ _ => False) E { s' with heap := h' }) s₄) E s₃) E s₂) E s₁) E s) :
    wpAny M A (comprehension e scope env pos newAcc false first none) Q E s := by
  have keepE : ∀ (v : Value) (s : Shared), E v s → E v s := fun _ _ q => q
  unfold comprehension
  rw [hclos, hcl]
  refine wpAny_bind (wpAny_mono h (fun x s₁ h₁ => ?_) keepE)
  refine wpAny_bind (wpAny_standAt (wpAny_bind (wpAny_of_eq (hs x) (wpAny_bind (wpAny_holding (wpAny_mono h₁ (fun it s₂ h₂ => ?_) keepE))))))
  refine wpAny_standIf (wpAny_bind (wpAny_mono h₂ (fun acc s₃ h₃ => ?_) keepE))
  refine wpAny_bind (wpAny_pure (wpAny_bind (wpAny_mono h₃ (fun cenv s₄ h₄ => ?_) keepE)))
  dsimp only
  have loc : ∀ y ∈ (scope.names.filter fun y => (y.2 == .local || y.2 == .cell) && y.1 != (".0" : Str)).reverse, y.2 = .local → Env.kindOf { cenv with scope := relabel scope env } y.1 = some .local := fun y hy hl =>
    lookup_relabel_local (hnames y (List.mem_filter.mp (List.mem_reverse.mp hy)).1 hl)
  refine wpAny_holding (wpAny_bind (wpAny_attempt (wpAny_holding (wpAny_run (codeAny_mono h₄ fun r s' hr => ?_)))))
  cases r with
  | ok f =>
    obtain ⟨m, hn, hr⟩ := hr
    exact wpAny_bind (wpAny_holding (wpAny_comp_letGo (cenv := { cenv with scope := relabel scope env }) hkind _ s' m loc hn fun h' _ _ sb => wpAny_pure (hr h' sb)))
  | error x =>
    obtain ⟨m, hn, hr⟩ := hr
    exact wpAny_bind (wpAny_holding (wpAny_comp_letGo (cenv := { cenv with scope := relabel scope env }) hkind _ s' m loc hn fun h' _ _ sb => wpAny_mono (hr h' sb) (fun _ _ z => z.elim) keepE))
end RP
namespace RP
open PySem PySem.Spec PyProof.Rows L2
/-- [elt for target in iter], the element may raise -/
def tLcE (wi : TI) (g : TG) (te : XK → TE) (W : WX) (vs : List Nat) : TE := fun σ H Q => wi σ H fun J H1 => ∀ D, H1 D = none → ∃ P : Nat → Nat → Hp → Prop, (∃ m, P 0 m (upd H1 D (.lst []))) ∧ ∀ i m H, P i m H →
  (J.stop i H ∧ Q (.ref D) H) ∨ (J.go i H ∧ ∃ Nx : Hp → Prop, (∀ H', Nx H' → ∃ m', m' < m ∧ P (i + 1) m' H') ∧ ∀ x H', J.yld i H x H' → g x (wipe σ vs) H' fun σ2 H2 => wipe σ2 vs = wipe σ vs ∧
    te (fun cls d H3 => W cls d σ H3) σ2 H2 fun y H4 => ∃ acc, H4 D = some (.lst acc) ∧ acc.length < sizeLine ∧ Nx (upd H4 D (.lst (acc ++ [y]))))
section
variable {X : Cx} {W : WX}
theorem lc_E {pins : List (Addr × Obj)} {s : Shared} {σ : L2.St} {H : Hp} {Q : VK} {elt tg iter : Expr} {scope : Scope} {own : List (Str × Nat)} {pos pos' : Pos} {wi : TI} {g : TG} {te : XK → TE}
    (hc : X.calm = true) (hN : X.N.Nodup) (I : Inv X pins σ H s) (hi : PI X tg iter wi) (ok : BlkOk X.N X.env.scope scope own) (tk : Takes X W) (hst : X.stack = X.env :: X.outer) (hfr : X.env.frame = some X.env.locals)
    (hg : ∀ (s : Shared) (H : Hp) (C : Addr) (cl : List (Str × Addr)) (fp : List Addr), PG (X.blk s H scope (compEnvC scope cl C X.env) fp) tg g)
    (he : ∀ (E : XK) (s : Shared) (H : Hp) (C : Addr) (cl : List (Str × Addr)) (fp : List Addr) (pn : List (Addr × Obj)) (xe : Value → Shared → Prop), (∀ σ', PassesAt (L2.CX X.prog X.w) ((X.blk s H scope (compEnvC scope cl C X.env) fp).tr pn xe) σ' E) → PE ((X.blk s H scope (compEnvC scope cl C X.env) fp).tr pn xe) elt (te E))
    (hs : ∀ x, foldedSetIterable iter X.env x = pure x) (h : tLcE wi g te W (own.map (·.2)) σ H Q) :
    wpAny (model X.prog X.w) X.A (comprehension (.ListComp elt [⟨tg, iter, [], 0⟩] scope pos) scope X.env pos' (newList []) false (eval iter X.env) none) (EP X pins σ Q) X.xe s := by
  have hfree : ∀ y ∈ scope.names, y.2 = .free → ∃ c, X.env.cells.lookup y.1 = some c := fun y hy e => (ok.free y hy e).elim (fun k => I.ok.has _ (.inl k)) fun k => I.ok.has _ (.inr k)
  refine comp_E rfl hs (closure_ok hfree) ok.kind (fun y hy e => by rw [ok.uniq y hy, e]) (thn (hi.run pins s σ H _ I h) fun xv s1 hx => thn hx fun itv s2 h2 => ?_)
  obtain ⟨it, fp, tn, J, H2, e, I2, T, st2, f2, q⟩ := h2
  subst e
  refine wpAny_newObj_type (newEnv_comp ?_) (by show 0 ≤ sizeLine; decide)
  generalize hD : s2.heap.objs.size = D
  obtain ⟨P, ⟨m0, w0⟩, turn⟩ := q D (I2.hok.fresh (Nat.le_of_eq hD))
  generalize hs3 : ({ s2 with heap := s2.heap.push { cls := .type "list", data := .seq ([] : List Value).toArray } } : Shared) = s3
  have h3 : s3.heap = s2.heap.push { cls := .type "list", data := .seq ([] : List Value).toArray } := by rw [← hs3]
  have I3 : Inv X pins σ (upd H2 D (.lst [])) s3 := by
    rw [← hs3]
    refine I2.laid (t' := s2.toks) (fun b o e => Heap.get?_push_of_some _ e) (Nat.le_of_eq hD) ⟨Nat.zero_le _, [], 0, .nil, ?_⟩
    rw [← hD]
    exact Heap.get?_push_size _ rfl
  have f3 : ∀ b ∈ fp, FpOk X pins (upd H2 D (.lst [])) b ∧ b < s3.heap.objs.size := fun b hb => by
    obtain ⟨o, e, _⟩ := T.obj _ _ st2 b hb
    have hlt := Heap.lt_size e
    refine ⟨⟨?_, (f2 b hb).2⟩, by rw [h3, Heap.size_push]; exact Nat.lt_succ_of_lt hlt⟩
    rw [upd_ne (by rw [← hD]; exact Nat.ne_of_lt hlt)]
    exact (f2 b hb).1
  have st3 : tn 0 s3.heap := T.keep _ _ _ st2 fun b _ o e => by rw [h3]; exact Heap.get?_push_of_some _ e
  have I4 := block_start I3 ok hN f3
  have pg := hg s3 (upd H2 D (.lst [])) s3.heap.objs.size (cellsFrom (s3.heap.objs.size + 1) scope.names (cloFrom X.env.cells scope.names [])) fp
  have pe := fun E => he E s3 (upd H2 D (.lst [])) s3.heap.objs.size (cellsFrom (s3.heap.objs.size + 1) scope.names (cloFrom X.env.cells scope.names [])) fp
  have nfp : ∀ b ∈ fp, (upd H2 D (.lst [])) b = none := fun b hb => (f3 b hb).1.1
  generalize hce : compEnvC scope (cellsFrom (s3.heap.objs.size + 1) scope.names (cloFrom X.env.cells scope.names [])) s3.heap.objs.size X.env = ce at I4 pg pe
  have cL : ce.locals = s3.heap.objs.size := by subst hce; rfl
  have cF : ce.frame = X.env.frame := by subst hce; rfl
  -- what the block owes
  generalize hR : (fun (r : Result) (s' : Shared) => match r with
    | .ok _ => ∃ m, s'.heap.Ns s3.heap.objs.size m ∧ ∀ h', Heap.SameBut s3.heap.objs.size s'.heap h' → EP X pins σ Q (.ref D) { s' with heap := h' }
    | .error x => ErrEnd X ce s3.heap.objs.size x s') = R
  have goalR : codeAny (model X.prog X.w) X.A (.compStart (.ListComp elt [⟨tg, iter, [], 0⟩] scope pos) 0 (.ref it) (.ref D) ce) R { s3 with heap := pushCells (s3.heap.push { cls := .type "dict", data := .dict #[] }) scope.names } := by
    generalize hH3 : upd H2 D (.lst []) = H3 at I3 I4 pg pe w0 nfp f3
    generalize hs4 : ({ s3 with heap := pushCells (s3.heap.push { cls := .type "dict", data := .dict #[] }) scope.names } : Shared) = s4 at I4 ⊢
    have st4 : tn 0 s4.heap := T.keep _ _ _ st3 fun b _ o e => by rw [← hs4]; exact pushCells_keeps _ _ _ _ (Heap.get?_push_of_some _ e)
    have back : ∀ {pn pins' : List (Addr × Obj)} {xe : Value → Shared → Prop} {σ' : L2.St} {H' : Hp} {s' : Shared}, Inv ((X.blk s3 H3 scope ce fp).tr pn xe) pins' σ' H' s' → Inv X pins σ H' s' := fun {pn pins' xe σ' H' s'} I' =>
      I3.call' (ch := fp) I'.os I'.base I'.hok I'.bare fun b hb => ⟨(f3 b hb).1.2.2.2.1, (f3 b hb).1.2.1, (f3 b hb).1.2.2.2.2.1, (f3 b hb).1.2.2.2.2.2⟩
    have atC : ∀ {pn pins' : List (Addr × Obj)} {xe : Value → Shared → Prop} {σ' : L2.St} {H' : Hp} {s' : Shared}, Inv ((X.blk s3 H3 scope ce fp).tr pn xe) pins' σ' H' s' → FpOk X pins H' s3.heap.objs.size ∧ ∃ m, s'.heap.Ns s3.heap.objs.size m := fun {pn pins' xe σ' H' s'} I' => by
      have nC : H' s3.heap.objs.size = none := by
        have z : H' ce.locals = none := I'.free
        rw [cL] at z
        exact z
      obtain ⟨m, hn, _⟩ := I'.loc
      have hn : s'.heap.Ns ce.locals m := hn
      rw [cL] at hn
      exact ⟨I3.fpOk (Nat.le_refl _) nC, m, hn⟩
    have stat : ∀ {σ' : L2.St} {H' : Hp} {s' : Shared}, Inv (X.blk s3 H3 scope ce fp) [] σ' H' s' → (∀ b ∈ fp, H' b = none) → ∀ b ∈ fp, FpOk (X.blk s3 H3 scope ce fp) [] H' b := fun {σ' H' s'} I' hn b hb =>
      ⟨hn b hb, (I'.ok.exf b hb).1, I'.ok.exfs b hb, .inl hb, fun x c e => (I'.ok.exf b hb).2 x c e, fun p hp => absurd (show p ∈ ([] : List (Addr × Obj)) ++ [] from hp) (by simp)⟩
    have loop : codeAny (model X.prog X.w) X.A (.compLoop (.ListComp elt [⟨tg, iter, [], 0⟩] scope pos) 0 (.ref it) (.ref D) ce) R s4 := by
      refine compLoop_any (fun n s' => ∃ i H', Inv (X.blk s3 H3 scope ce fp) [] (wipe σ (own.map (·.2))) H' s' ∧ tn i s'.heap ∧ (∀ b ∈ fp, H' b = none) ∧ P i n H') ?_ m0 ⟨0, H3, I4, st4, nfp, w0⟩
      rintro n s5 ⟨i, H5, I5, st5, n5, w5⟩
      rcases turn i n H5 w5 with ⟨stop, qq⟩ | ⟨go, Nx, hNx, step⟩
      · refine thnF (T.done (X.blk s3 H3 scope ce fp) rfl rfl rfl hc i [] s5 _ H5 (fun _ _ => False) I5 (stat I5 n5) st5 stop) fun r s6 ⟨hr, I6⟩ => ?_
        subst hr
        have I6t := I6.toTry (fun _ _ => False)
        have I7 := back I6t
        obtain ⟨fC, m, hn⟩ := atC I6t
        obtain ⟨f0, f1, _, g3, g4, g5⟩ := fC
        rw [← hR]
        exact ⟨m, hn, fun h'' sb => ⟨.ref D, H5, I7.turned (t' := s6.toks) (fun b o hb e => (sb.2 b hb).trans e) f0 f1 g3 g4 g5, rfl, qq⟩⟩
      · refine thnF (T.item (X.blk s3 H3 scope ce fp) rfl rfl rfl hc i [] s5 _ H5 (fun _ _ => False) I5 (stat I5 n5) st5 go) fun r s6 ⟨u, hr, h6⟩ => ?_
        subst hr
        refine thnF h6 fun _ s7 ⟨x, H7, I7, r7, y7, st7, n7⟩ => ?_
        have I7' := I7.pinned (stat I7 n7) (T.obj _ _ st7)
        refine thnF (pg.run _ s7 _ H7 x u _ I7' r7 (step x H7 y7)) fun _ s8 ⟨σ8, H8, I8, hw8, q8⟩ => ?_
        refine thnF ((pts_nil (X := X.blk s3 H3 scope ce fp)).run _ s8 σ8 H8 (fun b H' => b = true ∧ H' = H8) I8 ⟨rfl, rfl⟩) fun b s9 ⟨H9, I9, hb, hH⟩ => ?_
        subst hb
        subst hH
        rw [if_pos rfl]
        have okb := I9.ok
        refine wpAny_mono ((pe (fun cls d H3 => W cls d σ H3) ((X.blk s3 H3 scope ce fp).pn ++ ([] ++ pinsAt fp s7.heap)) (notedBy (model X.prog X.w) X.A ce fun e s' => R (.error e) s') fun σ' pins' H' s' e s'' I' c => ?_).run [] s9 σ8 H9 _ (I9.toTry _) q8) (fun z s10 hz => ?_) fun _ _ q => q
        · obtain ⟨fC, hn⟩ := atC I'
          refine wpAny_mono (exc_end (Ex := fun e s' => R (.error e) s') (ce := ce) (back I') tk hst hfr cF (fun cls d H' q => q) fC hn c) (fun _ s3' q => ?_) fun _ _ q => q
          rw [← hR]
          exact q
        · obtain ⟨yv, H10, I10, r10, acc, hD10, hz10, nx⟩ := hz
          have I10 := I10.ofTry okb
          refine app_ok (X := X.blk s3 H3 scope ce fp) I10 hD10 hz10 r10 fun s11 I11 => ?_
          obtain ⟨m', hm, w'⟩ := hNx _ nx
          have pin' : ∀ b ∈ fp, ∀ o, s7.heap.get? b = some o → s11.heap.get? b = some o ∧ (upd H10 D (.lst (acc ++ [yv]))) b = none := fun b hb o e =>
            let z := I11.pin (b, o) (List.mem_append_right _ (List.mem_append_right _ (mem_pinsAt hb e)))
            ⟨z.1, z.2.1⟩
          have hl : (wipe σ (own.map (·.2))).length = σ8.length := by rw [← hw8, wipe_length]
          refine ⟨m', hm, i + 1, _, (I11.unpinned (pins := [])).weak hl (fun j v e => ?_), T.keep _ _ _ st7 fun b hb o e => (pin' b hb o e).1, fun b hb => ?_, w'⟩
          · rw [← hw8] at e
            exact (wipe_some e).1
          · obtain ⟨o, e, _⟩ := T.obj _ _ st7 b hb
            exact (pin' b hb o e).2
    exact codeAny_compStart_list loop (T.self X.A 0 _ _ _ st4 loop)
  subst hR
  subst hce
  exact goalR
end
end RP
namespace RP
open PySem PySem.Spec PyProof.Rows L2
theorem pe_lcE {X : Cx} {W : WX} {elt tg iter : Expr} {scope : Scope} {own : List (Str × Nat)} {pos : Pos} {wi : TI} {g : TG} {te : XK → TE} (hc : X.calm = true) (hN : X.N.Nodup) (hi : PI X tg iter wi) (ok : BlkOk X.N X.env.scope scope own) (tk : Takes X W) (hst : X.stack = X.env :: X.outer) (hfr : X.env.frame = some X.env.locals)
    (hg : ∀ (s : Shared) (H : Hp) (C : Addr) (cl : List (Str × Addr)) (fp : List Addr), PG (X.blk s H scope (compEnvC scope cl C X.env) fp) tg g)
    (he : ∀ (E : XK) (s : Shared) (H : Hp) (C : Addr) (cl : List (Str × Addr)) (fp : List Addr) (pn : List (Addr × Obj)) (xe : Value → Shared → Prop), (∀ σ', PassesAt (L2.CX X.prog X.w) ((X.blk s H scope (compEnvC scope cl C X.env) fp).tr pn xe) σ' E) → PE ((X.blk s H scope (compEnvC scope cl C X.env) fp).tr pn xe) elt (te E))
    (hs : ∀ x, foldedSetIterable iter X.env x = pure x) : PE X (.ListComp elt [⟨tg, iter, [], 0⟩] scope pos) (tLcE wi g te W (own.map (·.2))) := by
  refine ⟨fun pins s σ H Q I h => ?_⟩
  rw [eval_ListComp]
  exact lc_E hc hN I hi ok tk hst hfr hg he hs h
/-! ### what it computes: list-free data -/
def compD (T : Tg) (felt : En → Rs Tr) (en : En) : List Tr → Rs (List PyData)
  | [] => .ok []
  | t :: its => match T t en with
    | none => .no
    | some en1 => (felt en1).bind fun x => match x with
      | .d d => if lf d then (compD T felt en its).bind fun ds => .ok (d :: ds) else .no
      | _ => .no
def dCompD (src : En → Rs (List Tr)) (T : Tg) (vs : List Nat) (felt : En → Rs Tr) : En → Rs Tr := fun en => (src en).bind fun its => if its.length ≤ 100000 then (compD T felt (wipeE en vs) its).bind fun ds => .ok (.ol (ds.map Tr.d)) else .no
section
variable {K : PySem.W.Frag} {H : Hp} {σ : L2.St}
theorem tm_compD {cl : Str → Addr} {Wx : WX} {src : En → Rs (List Tr)} {T : Tg} {js vs : List Nat} {felt : En → Rs Tr} {g : TG} (hg : GOk K g T js) (hj : ∀ j ∈ js, j ∈ vs) {Q : VK} (h : tM K (wOf cl Wx) (dCompD src T vs felt) σ H Q) :
    tLcE (tI K (wOf cl Wx) true src) g (fun E => tM K (wOf cl (fun c d _ H' => E c d H')) felt) Wx vs σ H Q := by
  obtain ⟨F, en, fp, O, S, h⟩ := h
  refine ⟨F, en, fp, O, S, ?_⟩
  unfold dCompD at h
  cases e : src en with
  | er c => rw [e] at h; exact h
  | no => rw [e] at h; exact h
  | ok its =>
    rw [e] at h
    simp only [Rs.bind_ok'] at h
    intro J H1 e1 itr D hD
    by_cases hz : its.length ≤ 100000
    · rw [if_pos hz] at h
      have S1 := S.grow e1
      generalize hfull : compD T felt (wipeE en vs) its = full at h
      refine ⟨fun i m H2 => m = its.length - i ∧ i ≤ its.length ∧ Exn H1 H2 ∧ ∃ acc us, H2 D = some (.lst acc) ∧ Rps H2 us acc ∧ lfs us = true ∧ acc.length ≤ i ∧ (compD T felt (wipeE en vs) (its.drop i)).bind (fun ds => .ok (us ++ ds)) = full,
        ⟨its.length, rfl, Nat.zero_le _, Exn.new hD, [], [], upd_same, rfl, rfl, Nat.le_refl _, ?_⟩, ?_⟩
      · rw [List.drop_zero, hfull]
        cases full <;> rfl
      rintro i m H2 ⟨rfl, hi, e2, acc, us, hD2, rp, lu, hl, hc⟩
      have S2 := S1.add e2 [D] (fun a ha => by rw [List.mem_singleton.mp ha]; exact hD) (fun a ha => by rw [List.mem_singleton.mp ha]; exact ⟨_, hD2, .inl ⟨_, rfl⟩⟩)
      obtain ⟨j1, j2, j3⟩ := itr i _ H2 S2.wf (gh_mono (fun a o _ z => e2 a o z) fun a z => z.imp id fun ha => by rw [List.mem_singleton.mp ha]; exact hD) fun _ => e2
      by_cases hlt : i < its.length
      · rw [List.drop_eq_getElem_cons hlt] at hc
        unfold compD at hc
        cases hT : T its[i] (wipeE en vs) with
        | none =>
          rw [hT] at hc
          subst hc
          exact h.elim
        | some en1 =>
          rw [hT] at hc
          simp only at hc
          refine .inr ⟨j1 hlt, fun H5 => ∃ acc us, Exn H1 H5 ∧ H5 D = some (.lst acc) ∧ Rps H5 us acc ∧ lfs us = true ∧ acc.length ≤ i + 1 ∧ (compD T felt (wipeE en vs) (its.drop (i + 1))).bind (fun ds => .ok (us ++ ds)) = full, ?_, ?_⟩
          · rintro H5 ⟨acc', us', a1, a2, a3, a4, a5, a6⟩
            exact ⟨its.length - (i + 1), by omega, rfl, hlt, a1, acc', us', a2, a3, a4, a5, a6⟩
          · intro x H3 y
            obtain ⟨e3, rx, _⟩ := j2 its[i] (List.getElem?_eq_getElem hlt) x H3 y
            have S3 := S2.grow e3
            obtain ⟨fpw, S3w⟩ := S3.wipe (vs := vs)
            refine hg F (wipeE en vs) fpw _ (L2.wipe σ vs) H3 its[i] x en1 _ S3w rx hT fun σ2 fp2 S4 hσ hσl _ => ⟨?_, ?_⟩
            · rw [← wipe_wipe (σ := σ) vs]
              exact wipe_same (by rw [hσl]) fun k hk => hσ k fun z => hk (hj k z)
            · refine ⟨F, en1, fp2, _, S4, ?_⟩
              have eH3 : Exn H H3 := (e1.trans e2).trans e3
              cases he : felt en1 with
              | er c =>
                rw [he] at hc
                have hc : (Rs.er c : Rs (List PyData)) = full := hc
                subst hc
                exact fun H' e4 => h H' (eH3.trans e4)
              | no =>
                rw [he] at hc
                have hc : (Rs.no : Rs (List PyData)) = full := hc
                subst hc
                exact h.elim
              | ok t =>
                rw [he] at hc
                simp only [Rs.bind_ok'] at hc
                have bad : (Rs.no : Rs (List PyData)) = full → False := fun z => by subst z; exact h.elim
                cases t with
                | d d =>
                  simp only at hc
                  by_cases hld : lf d = true
                  · rw [if_pos hld] at hc
                    intro v H5 ⟨e5, fq, _, _, _, rv⟩
                    have rv := Rp.mono gh_sub d v rv
                    have e25 := e3.trans e5
                    have hD5 : H5 D = some (.lst acc) := e25 _ _ hD2
                    have tup : ∀ b xs, H5 b = some (.tup xs) → upd H5 D (.lst (acc ++ [v])) b = some (.tup xs) := fun b xs hb => by
                      have nb : b ≠ D := fun z => by rw [z, hD5] at hb; cases hb
                      rw [upd_ne nb]; exact hb
                    refine ⟨acc, hD5, by unfold sizeLine; omega, acc ++ [v], us ++ [d], fun a o ho => ?_, upd_same, Rps.app (Rps.tups (fun b xs hb => tup b xs (e25 _ _ hb)) us acc lu rp) (Rp.tups tup d v hld rv), lfs_app lu (by show (lf d && true) = true; rw [hld]; rfl), by rw [List.length_append, List.length_singleton]; omega, ?_⟩
                    · have na : a ≠ D := fun z => by rw [z, hD] at ho; cases ho
                      rw [upd_ne na]
                      exact (e2.trans e25) a o ho
                    · rw [← hc]
                      cases compD T felt (wipeE en vs) (its.drop (i + 1)) with
                      | ok ds => show Rs.ok ((us ++ [d]) ++ ds) = Rs.ok (us ++ (d :: ds)); rw [List.append_assoc]; rfl
                      | er c => rfl
                      | no => rfl
                  · rw [if_neg hld] at hc
                    exact (bad hc).elim
                | e _ => exact (bad hc).elim
                | v _ => exact (bad hc).elim
                | s _ => exact (bad hc).elim
                | dt _ => exact (bad hc).elim
                | ol _ => exact (bad hc).elim
                | tp _ => exact (bad hc).elim
      · have ei : i = its.length := by omega
        subst ei
        refine .inl ⟨j3 (Nat.le_refl _), ?_⟩
        rw [List.drop_length] at hc
        have hc : Rs.ok (us ++ []) = full := hc
        rw [List.append_nil] at hc
        subst hc
        exact h (.ref D) H2 ⟨e1.trans e2, [D], List.nodup_cons.mpr ⟨by simp, List.nodup_nil⟩, fun a ha => by rw [List.mem_singleton.mp ha]; exact e1.back hD, D, acc, [], rfl, rfl, hD2, RTs.ofD (Rps.tups (fun b xs hb => S2.tup hb) us acc lu rp)⟩
    · rw [if_neg hz] at h
      exact h.elim
end
section
variable {X : Cx} {Wx : WX} {cl : Str → Addr}
theorem sn_compD {elt tg iter : Expr} {scope : Scope} {own : List (Str × Nat)} {pos : Pos} {src : En → Rs (List Tr)} {T : Tg} {js : List Nat} {felt : En → Rs Tr} {g : TG} (hc : X.calm = true) (hN : X.N.Nodup) (tk : Takes X Wx) (hst : X.stack = X.env :: X.outer) (hfr : X.env.frame = some X.env.locals) (hi : SndI X (wOf cl Wx) true tg iter src) (ok : BlkOk X.N X.env.scope scope own)
    (hg : ∀ (s : Shared) (H : Hp) (C : Addr) (cl : List (Str × Addr)) (fp : List Addr), PG (X.blk s H scope (compEnvC scope cl C X.env) fp) tg g) (gk : GOk X.K g T js) (hj : ∀ j ∈ js, j ∈ own.map (·.2))
    (he : ∀ (E : XK) (s : Shared) (H : Hp) (C : Addr) (cl' : List (Str × Addr)) (fp : List Addr) (pn : List (Addr × Obj)) (xe : Value → Shared → Prop), (∀ σ', PassesAt (L2.CX X.prog X.w) ((X.blk s H scope (compEnvC scope cl' C X.env) fp).tr pn xe) σ' E) → Snd ((X.blk s H scope (compEnvC scope cl' C X.env) fp).tr pn xe) (wOf cl (fun c d _ H' => E c d H')) elt felt)
    (hs : ∀ x, foldedSetIterable iter X.env x = pure x := by intro _; rfl) : Snd X (wOf cl Wx) (.ListComp elt [⟨tg, iter, [], 0⟩] scope pos) (dCompD src T (own.map (·.2)) felt) :=
  pe_wk (pe_lcE hc hN hi ok tk hst hfr hg he hs) fun _ _ _ h => tm_compD gk hj h
theorem sn_calE {E : XK} {k k0 : Nat} {den : Den} {fr : En → Rs (List Tr)} {x : Str} {p pos : Pos} {e : Expr} {es : List Expr} (hx : ∀ σ, PassesAt (L2.CX X.prog X.w) X σ E) (c : Cal X.prog X.w X.K X.mg X.base cl x k den) (hr : Room k0 X.A) (hk : k ≤ k0) (hg : Gl X x)
    (ha : SndA X (wOf cl (fun c d _ H' => E c d H')) (e :: es) fr) (hdb : (x == ("__debug__" : Str)) = false := by decide) (he : starEach (e :: es) X.env = (false, eval e X.env) :: starEach es X.env := by rfl) (hpl : (backTo pos (starEach es X.env)).any (·.1) = false := by rfl) :
    Snd X (wOf cl (fun c d _ H' => E c d H')) (.Call (.Name x p) (e :: es) [] pos) (dCall den fr) := by
  obtain ⟨f, fd, ps, F, h1, h2, h3⟩ := c
  exact pe_wk (pe_callS F (hr.mono hk) hg h1 h2 h3 hx ha hdb he hpl) fun _ _ _ h => tm_call (Wx := fun c d _ H' => E c d H') h
end
end RP
namespace RP
open PySem
def mixM (c k : Int) : Int :=
  let m := (c * 69621 + 7001 * k + 3) % 2147483629
  (m * m + 39373 * m + k) % 2147483647
def cellM (ns : List Int) (k : Nat) : Int := (ns[k]?).getD 0
-- the runs, as the law counts them
def runsStep (st : List Int × Int) (cell : Int) : List Int × Int := if cell = 1 then (st.1, st.2 + 1) else if st.2 > 0 then (st.1 ++ [st.2], 0) else st
def runsM (cells : List Int) : List Int := ((cells ++ [0]).foldl runsStep ([], 0)).1
-- the runs, as the program counts them
def incLast : List Int → List Int
  | [] => []
  | xs => xs.set (xs.length - 1) (xs.getLastD 0 + 1)
def runsPStep (st : List Int × Int) (cell : Int) : List Int × Int := (if cell = 1 ∧ st.2 = 0 then st.1 ++ [1] else if cell = 1 then incLast st.1 else st.1, cell)
def runsP (cells : List Int) : List Int := (cells.foldl runsPStep ([], 0)).1
theorem incLast_app (f : List Int) (c : Int) : incLast (f ++ [c]) = f ++ [c + 1] := by
  unfold incLast
  split
  · rename_i h; simp at h
  · simp
theorem runs_inv (cells : List Int) (hb : ∀ c ∈ cells, c = 0 ∨ c = 1) : ∀ (f : List Int) (n : Int), 0 ≤ n →
    (cells.foldl runsPStep (if n = 0 then (f, 0) else (f ++ [n], 1))) = (let s := cells.foldl runsStep (f, n); if s.2 = 0 then (s.1, 0) else (s.1 ++ [s.2], 1)) ∧ 0 ≤ (cells.foldl runsStep (f, n)).2 := by
  induction cells with
  | nil =>
    intro f n hn
    exact ⟨rfl, hn⟩
  | cons c cs ih =>
    intro f n hn
    have ih' := ih fun x hx => hb x (List.mem_cons_of_mem _ hx)
    rcases hb c List.mem_cons_self with rfl | rfl
    · -- an empty cell
      by_cases h0 : n = 0
      · subst h0
        have e := ih' f 0 (Int.le_refl 0)
        simp only [if_pos] at e
        simpa [List.foldl_cons, runsPStep, runsStep] using e
      · have hn' : n > 0 := by omega
        have e := ih' (f ++ [n]) 0 (Int.le_refl 0)
        simp only [if_pos] at e
        simpa [List.foldl_cons, runsPStep, runsStep, h0, hn'] using e
    · -- a full one
      have hn1 : ¬ (n + 1 = 0) := by omega
      have e := ih' f (n + 1) (by omega)
      simp only [if_neg hn1] at e
      by_cases h0 : n = 0
      · subst h0
        simpa [List.foldl_cons, runsPStep, runsStep] using e
      · have ei := incLast_app f n
        simpa [List.foldl_cons, runsPStep, runsStep, h0, ei] using e
theorem runs_same (cells : List Int) (hb : ∀ c ∈ cells, c = 0 ∨ c = 1) : runsP cells = runsM cells := by
  have e := (runs_inv cells hb [] 0 (Int.le_refl 0))
  unfold runsP runsM
  rw [List.foldl_append]
  obtain ⟨e1, e2⟩ := e
  rw [if_pos rfl] at e1
  rw [e1]
  simp only [List.foldl_cons, List.foldl_nil, runsStep]
  by_cases h : (cells.foldl runsStep ([], 0)).2 = 0
  · simp [h]
  · have h' : (cells.foldl runsStep ([], 0)).2 > 0 := by omega
    simp [h, h']
theorem runs_len : ∀ (cs : List Int) (s : List Int × Int), (cs.foldl runsStep s).1.length ≤ s.1.length + cs.length
  | [], _ => Nat.le_refl _
  | c :: cs, s => by
    have h := runs_len cs (runsStep s c)
    rw [List.foldl_cons, List.length_cons]
    have h2 : (runsStep s c).1.length ≤ s.1.length + 1 := by
      unfold runsStep
      split
      · show s.1.length ≤ _
        omega
      · split
        · simp
        · omega
    omega
theorem runsM_len (cs : List Int) : (runsM cs).length ≤ cs.length + 1 := by
  have h := runs_len (cs ++ [0]) ([], 0)
  rw [List.length_append] at h
  have h' : (runsM cs).length ≤ 0 + (cs.length + 1) := h
  omega
-- data
@[simp] theorem shk_ints (n : Nat) (xs : List Int) : shk (n + 1) (.list (xs.map .int)) = true := by
  show (xs.map PyData.int).all (shk n) = true
  rw [List.all_map, List.all_eq_true]
  intro x _
  cases n <;> rfl
@[simp] theorem shk_tints (n : Nat) (xs : List Int) : shk (n + 1) (.tuple (xs.map .int)) = true := by
  show (xs.map PyData.int).all (shk n) = true
  rw [List.all_map, List.all_eq_true]
  intro x _
  cases n <;> rfl
theorem plns_all {α : Type} (f : α → PyData) (xs : List α) (h : ∀ a ∈ xs, pln (f a) = true) : plns (xs.map f) = true := by
  induction xs with
  | nil => rfl
  | cons x xs ih =>
    show (pln (f x) && plns (xs.map f)) = true
    rw [h x List.mem_cons_self, ih fun a ha => h a (List.mem_cons_of_mem _ ha)]; rfl
@[simp] theorem pln_ints (xs : List Int) : pln (.list (xs.map .int)) = true := plns_all _ xs fun _ _ => rfl
@[simp] theorem pln_tints (xs : List Int) : pln (.tuple (xs.map .int)) = true := plns_all _ xs fun _ _ => rfl
theorem int_inj {xs ys : List Int} : xs.map PyData.int = ys.map PyData.int ↔ xs = ys := List.map_inj_right fun _ _ h => by cases h; rfl
@[simp] theorem gEq_ints (xs ys : List Int) : gEq [.d (.list (xs.map .int)), .d (.list (ys.map .int))] = some (.d (.bool (decide (xs = ys)))) :=
  gEq_data (data_d _) (data_d _) (shk_ints 39 _) (shk_ints 39 _) (pln_ints _) (pln_ints _) (by simp [int_inj])
@[simp] theorem gEq_tints (xs ys : List Int) : gEq [.d (.tuple (xs.map .int)), .d (.tuple (ys.map .int))] = some (.d (.bool (decide (xs = ys)))) :=
  gEq_data (data_d _) (data_d _) (shk_tints 39 _) (shk_tints 39 _) (pln_tints _) (pln_tints _) (by simp [int_inj])
@[simp] theorem gNe_ints (xs ys : List Int) : gNe [.d (.list (xs.map .int)), .d (.list (ys.map .int))] = some (.d (.bool (!decide (xs = ys)))) :=
  gNe_data (data_d _) (data_d _) (shk_ints 39 _) (shk_ints 39 _) (pln_ints _) (pln_ints _) (by simp [int_inj])
@[simp] theorem gNe_tints (xs ys : List Int) : gNe [.d (.tuple (xs.map .int)), .d (.tuple (ys.map .int))] = some (.d (.bool (!decide (xs = ys)))) :=
  gNe_data (data_d _) (data_d _) (shk_tints 39 _) (shk_tints 39 _) (pln_tints _) (pln_tints _) (by simp [int_inj])
@[simp] theorem gNe_tnil (xs : List Int) : gNe [.d (.tuple (xs.map .int)), .d (.tuple [])] = some (.d (.bool (!decide (xs = [])))) := gNe_tints xs []
theorem mix_bound (c k : Int) : 0 ≤ mixM c k ∧ mixM c k < 2147483647 := by
  unfold mixM
  exact ⟨Int.emod_nonneg _ (by omega), Int.emod_lt_of_pos _ (by omega)⟩
end RP
namespace RP
open PySem L2
-- a loop that runs through, by what holds behind the items done
theorem forL_ind {α : Type} {T : Tg} {body : DenS} {src : α → Tr} (I : List α → En → Prop) : ∀ (xs dn : List α) (en : En), I dn en →
    (∀ dn a en, a ∈ xs → I dn en → ∃ en1 en2, T (src a) en = some en1 ∧ (body en1 = .nx en2 ∨ body en1 = .ct en2) ∧ I (dn ++ [a]) en2) → ∃ en', forL T body (xs.map src) en = .nx en' ∧ I (dn ++ xs) en'
  | [], dn, en, h, _ => ⟨en, rfl, by rw [List.append_nil]; exact h⟩
  | a :: xs, dn, en, h, st => by
    obtain ⟨en1, en2, h1, h2, h3⟩ := st dn a en List.mem_cons_self h
    obtain ⟨en', h4, h5⟩ := forL_ind I xs (dn ++ [a]) en2 h3 fun dn b en hb hi => st dn b en (List.mem_cons_of_mem _ hb) hi
    refine ⟨en', ?_, by rw [List.append_assoc] at h5; exact h5⟩
    rw [List.map_cons, forL, h1]
    rcases h2 with h2 | h2 <;> (simp only [h2, loopR_nx, loopR_ct]; exact h4)
-- the items' places told too
theorem forL_idx {α : Type} {T : Tg} {body : DenS} {src : α → Tr} (I : Nat → En → Prop) (xs : List α) : ∀ (n : Nat) (en : En), n ≤ xs.length → I n en →
    (∀ i a en, xs[i]? = some a → I i en → ∃ en1 en2, T (src a) en = some en1 ∧ (body en1 = .nx en2 ∨ body en1 = .ct en2) ∧ I (i + 1) en2) → ∃ en', forL T body ((xs.drop n).map src) en = .nx en' ∧ I xs.length en' := by
  intro n
  induction h : xs.length - n generalizing n with
  | zero =>
    intro en hn hi _
    have e : n = xs.length := by omega
    subst e
    rw [List.drop_length]
    exact ⟨en, rfl, hi⟩
  | succ k ih =>
    intro en hn hi st
    have hlt : n < xs.length := by omega
    obtain ⟨en1, en2, h1, h2, h3⟩ := st n xs[n] en (List.getElem?_eq_getElem hlt) hi
    obtain ⟨en', h4, h5⟩ := ih (n + 1) (by omega) en2 (by omega) h3 st
    refine ⟨en', ?_, h5⟩
    rw [List.drop_eq_getElem_cons hlt, List.map_cons, forL, h1]
    rcases h2 with h2 | h2 <;> (simp only [h2, loopR_nx, loopR_ct]; exact h4)
theorem forL_idx0 {α : Type} {T : Tg} {body : DenS} {src : α → Tr} (I : Nat → En → Prop) (xs : List α) (en : En) (h : I 0 en)
    (st : ∀ i a en, xs[i]? = some a → I i en → ∃ en1 en2, T (src a) en = some en1 ∧ (body en1 = .nx en2 ∨ body en1 = .ct en2) ∧ I (i + 1) en2) : ∃ en', forL T body (xs.map src) en = .nx en' ∧ I xs.length en' := by
  have := forL_idx (src := src) I xs 0 en (Nat.zero_le _) h st
  rwa [List.drop_zero] at this
theorem range_get {n i a : Nat} (h : (List.range n)[i]? = some a) : a = i ∧ i < n := by
  obtain ⟨h1, h2⟩ := List.getElem?_eq_some_iff.mp h
  rw [List.length_range] at h1
  rw [List.getElem_range] at h2
  exact ⟨h2.symm, h1⟩
-- lists of lists of ints
abbrev LL (p : List (List Int)) : PyData := .list (p.map fun r => .list (r.map .int))
abbrev TL (p : List (List Int)) : PyData := .tuple (p.map fun r => .tuple (r.map .int))
abbrev OL (p : List (List Int)) : Tr := .ol (p.map fun r => .ol (r.map fun i => .d (.int i)))
theorem datas_mapg {α : Type} {f : α → Tr} {g : α → PyData} (h : ∀ a, data (f a) = some (g a)) (xs : List α) : datas (xs.map f) = some (xs.map g) := by
  induction xs with
  | nil => rfl
  | cons x xs ih => simp [ih, h]
theorem cleans_mapg {α : Type} {f : α → Tr} (h : ∀ a, clean (f a) = true) (xs : List α) : cleans (xs.map f) = true := by
  induction xs with
  | nil => rfl
  | cons x xs ih => simp [ih, h]
theorem noVs_mapg {α : Type} {f : α → Tr} (h : ∀ a, noV (f a) = true) (xs : List α) : noVs (xs.map f) = true := by
  induction xs with
  | nil => rfl
  | cons x xs ih => simp [ih, h]
@[simp] theorem datas_OL (p : List (List Int)) : datas (p.map fun r => Tr.ol (r.map fun i => .d (.int i))) = some (p.map fun r => .list (r.map .int)) := datas_mapg (fun r => by simp) p
@[simp] theorem cleans_OL (p : List (List Int)) : cleans (p.map fun r => Tr.ol (r.map fun i => .d (.int i))) = true := cleans_mapg (fun r => by simp) p
@[simp] theorem noVs_OL (p : List (List Int)) : noVs (p.map fun r => Tr.ol (r.map fun i => .d (.int i))) = true := noVs_mapg (fun r => by simp) p
theorem frz_OL (p : List (List Int)) : frz (OL p) = .d (LL p) := by
  rw [frz_olg]
  simp
@[simp] theorem frz_OL' (p : List (List Int)) : frz (.ol (p.map fun r => .ol (r.map fun i => .d (.int i)))) = .d (.list (p.map fun r => .list (r.map .int))) := frz_OL p
theorem lf_tints (r : List Int) : lf (.tuple (r.map .int)) = true := lfs_ints r
@[simp] theorem lfs_TL (p : List (List Int)) : lfs (p.map fun r => PyData.tuple (r.map .int)) = true := lfs_all (fun r : List Int => PyData.tuple (r.map .int)) (fun r => lfs_ints r) p
@[simp] theorem shk_LL (n : Nat) (p : List (List Int)) : shk (n + 2) (.list (p.map fun r => .list (r.map .int))) = true := by
  show (p.map fun r => PyData.list (r.map .int)).all (shk (n + 1)) = true
  rw [List.all_map, List.all_eq_true]
  intro x _
  exact shk_ints n x
@[simp] theorem shk_TL (n : Nat) (p : List (List Int)) : shk (n + 2) (.tuple (p.map fun r => .tuple (r.map .int))) = true := by
  show (p.map fun r => PyData.tuple (r.map .int)).all (shk (n + 1)) = true
  rw [List.all_map, List.all_eq_true]
  intro x _
  exact shk_tints n x
@[simp] theorem pln_LL (p : List (List Int)) : pln (.list (p.map fun r => .list (r.map .int))) = true := plns_all _ p fun r _ => pln_ints r
@[simp] theorem pln_TL (p : List (List Int)) : pln (.tuple (p.map fun r => .tuple (r.map .int))) = true := plns_all _ p fun r _ => pln_tints r
theorem LL_inj {p q : List (List Int)} : (p.map fun r => PyData.list (r.map .int)) = (q.map fun r => .list (r.map .int)) ↔ p = q := List.map_inj_right fun a b h => int_inj.mp (by injection h)
theorem TL_inj {p q : List (List Int)} : (p.map fun r => PyData.tuple (r.map .int)) = (q.map fun r => .tuple (r.map .int)) ↔ p = q := List.map_inj_right fun a b h => int_inj.mp (by injection h)
-- pictures
def picM (cell : Int) (rows cols : Nat) : List (List Int) := (List.range rows).map fun r => (List.range cols).map fun c => if mixM cell (1000 + 20 * (r : Nat) + (c : Nat)) / 7 % 4 > mixM cell 3 % 3 then 1 else 0
def colM (p : List (List Int)) (at_ : Nat) : List Int := p.map fun r => (r[at_]?).getD 0
-- C columns, 0 or 1 each
structure Pic (R C : Nat) (p : List (List Int)) : Prop where
  len : p.length = R
  row : ∀ r ∈ p, r.length = C
  bit : ∀ r ∈ p, ∀ c ∈ r, c = 0 ∨ c = 1
theorem pic_picM (cell : Int) (R C : Nat) : Pic R C (picM cell R C) := by
  refine ⟨by simp [picM], fun r hr => ?_, fun r hr c hc => ?_⟩
  · obtain ⟨i, _, rfl⟩ := List.mem_map.mp hr
    simp
  · obtain ⟨i, _, rfl⟩ := List.mem_map.mp hr
    obtain ⟨j, _, rfl⟩ := List.mem_map.mp hc
    split
    · exact .inr rfl
    · exact .inl rfl
theorem Pic.col {R C : Nat} {p : List (List Int)} (h : Pic R C p) (k : Nat) : ∀ c ∈ colM p k, c = 0 ∨ c = 1 := fun c hc => by
  obtain ⟨r, hr, rfl⟩ := List.mem_map.mp hc
  cases e : r[k]? with
  | none => exact .inl rfl
  | some x => exact h.bit r hr x (List.mem_of_getElem? e)
def boardR (p : List (List Int)) : List (List Int) := p.map runsM
def boardC (p : List (List Int)) (C : Nat) : List (List Int) := (List.range C).map fun k => runsM (colM p k)
abbrev bdD (a b : List (List Int)) : PyData := .tuple [TL a, TL b]
theorem gEq_bd (a b a' b' : List (List Int)) : gEq [.d (bdD a b), .d (bdD a' b')] = some (.d (.bool (decide (a = a' ∧ b = b')))) := by
  refine gEq_data (data_d _) (data_d _) ?_ ?_ ?_ ?_ ?_
  · show ([TL a, TL b]).all (shk 39) = true
    simp
  · show ([TL a', TL b']).all (shk 39) = true
    simp
  · show (pln (TL a) && (pln (TL b) && true)) = true
    simp
  · show (pln (TL a') && (pln (TL b') && true)) = true
    simp
  · rw [decide_eq_true_eq]
    constructor
    · rintro ⟨rfl, rfl⟩; rfl
    · intro h
      injection h with h
      injection h with h1 h2
      injection h2 with h2 _
      injection h1 with h1
      injection h2 with h2
      exact ⟨TL_inj.mp h1, TL_inj.mp h2⟩
end RP
namespace RP
open PySem L2
theorem forL_any {α : Type} {T : Tg} {body : DenS} {src : α → Tr} (bad : α → Bool) (I : En → Prop) (R : En → SR) (hR : ∀ en k, loopR (R en) k = R en) : ∀ (xs : List α) (en : En), I en →
    (∀ a en, a ∈ xs → I en → ∃ en1 en2, T (src a) en = some en1 ∧ (bad a = false → body en1 = .nx en2 ∧ I en2) ∧ (bad a = true → body en1 = R en2)) →
    (xs.any bad = true → ∃ en2, forL T body (xs.map src) en = R en2) ∧ (xs.any bad = false → ∃ en2, forL T body (xs.map src) en = .nx en2 ∧ I en2)
  | [], en, h, _ => ⟨fun z => (by cases z), fun _ => ⟨en, rfl, h⟩⟩
  | a :: xs, en, h, st => by
    obtain ⟨en1, en2, h1, h2, h3⟩ := st a en List.mem_cons_self h
    rw [List.any_cons, List.map_cons, forL, h1]
    cases hb : bad a with
    | true =>
      have h4 := h3 hb
      refine ⟨fun _ => ⟨en2, by simp only [h4, hR]⟩, fun z => (by cases z)⟩
    | false =>
      obtain ⟨h4, h5⟩ := h2 hb
      obtain ⟨k1, k2⟩ := forL_any bad I R hR xs en2 h5 fun b en hb => st b en (List.mem_cons_of_mem _ hb)
      simp only [h4, loopR_nx, Bool.false_or]
      exact ⟨k1, k2⟩
theorem loopR_erR (c : Str) (en : En) (k : En → SR) : loopR (.er c en) k = .er c en := rfl
-- tuples put together
theorem allD_app : ∀ (xs ys : List PyData), allD (xs.map Tr.d ++ ys.map Tr.d) = some (xs ++ ys) := fun xs ys => by
  rw [← List.map_append, allD_map]
theorem mkTp_app (xs ys : List PyData) : mkTp (xs.map Tr.d ++ ys.map Tr.d) = .d (.tuple (xs ++ ys)) := by
  rw [← List.map_append, mkTp_map]
theorem gAdd_tup (r s : List Int) (h : r.length + s.length ≤ 100000) : gAdd [.d (.tuple (r.map .int)), .d (.tuple (s.map .int))] = some (.d (.tuple ((r ++ s).map .int))) := by
  show gCat [.d (.tuple (r.map .int)), .d (.tuple (s.map .int))] = _
  unfold gCat
  simp only [kids_dt]
  rw [if_pos (by simpa using h), mkTp_app, ← List.map_append]
abbrev OT (q : List (List Int)) : Tr := .ol (q.map fun r => .d (.tuple (r.map .int)))
-- a side of a board spoilt stays a list of tuples of ints
structure Bd (N : Nat) (a : List (List Int)) : Prop where
  len : a.length ≤ N
  row : ∀ r ∈ a, r.length ≤ N
theorem Bd.mono {N M : Nat} {a : List (List Int)} (h : Bd N a) (hm : N ≤ M) : Bd M a := ⟨by have := h.len; omega, fun r hr => by have := h.row r hr; omega⟩
end RP
namespace RP
open PySem L2
abbrev Sg := List (Option Int)
-- all lines, in order
def everyM : Nat → List (List Int)
  | 0 => [[]]
  | n + 1 => (everyM n).map (fun r => 0 :: r) ++ (everyM n).map (fun r => 1 :: r)
def agr : Sg → List Int → Bool
  | [], [] => true
  | c :: s, x :: xs => (c == none || c == some x) && agr s xs
  | _, _ => false
-- the runs, a run of j cells lying open
def rn : Nat → List Int → List Nat
  | j, [] => if j = 0 then [] else [j]
  | j, c :: cs => if c = 1 then rn (j + 1) cs else if j = 0 then rn 0 cs else j :: rn 0 cs
theorem rn_runs : ∀ (cs : List Int) (f : List Int) (j : Nat), ((cs ++ [0]).foldl runsStep (f, (j : Int))).1 = f ++ (rn j cs).map fun n : Nat => (n : Int)
  | [], f, j => by
    by_cases h : j = 0
    · subst h; simp [runsStep, rn]
    · have h' : 0 < j := by omega
      simp [runsStep, rn, h, h']
  | c :: cs, f, j => by
    rw [List.cons_append, List.foldl_cons]
    by_cases h1 : c = 1
    · subst h1
      have e := rn_runs cs f (j + 1)
      have e2 : runsStep (f, (j : Int)) 1 = (f, ((j + 1 : Nat) : Int)) := by simp [runsStep]
      rw [e2, e]
      simp [rn]
    · by_cases h : j = 0
      · subst h
        have e := rn_runs cs f 0
        have e2 : runsStep (f, ((0 : Nat) : Int)) c = (f, ((0 : Nat) : Int)) := by simp [runsStep, h1]
        rw [e2, e]
        simp [rn, h1]
      · have h' : 0 < j := by omega
        have e := rn_runs cs (f ++ [(j : Int)]) 0
        have e2 : runsStep (f, (j : Int)) c = (f ++ [(j : Int)], ((0 : Nat) : Int)) := by simp [runsStep, h1, h']
        rw [e2, e]
        simp [rn, h1, h]
theorem runsM_rn (cs : List Int) : runsM cs = (rn 0 cs).map fun n : Nat => (n : Int) := by
  have e := rn_runs cs [] 0
  simpa [runsM] using e
theorem rI_inj {a b : List Nat} : (a.map fun n : Nat => (n : Int)) = (b.map fun n : Nat => (n : Int)) ↔ a = b := List.map_inj_right fun x y h => by omega
theorem rn_pos : ∀ (cs : List Int) (j : Nat), ∀ r ∈ rn j cs, 0 < r
  | [], j, r, h => by
    unfold rn at h
    split at h
    · cases h
    · rcases List.mem_singleton.mp h with rfl; omega
  | c :: cs, j, r, h => by
    unfold rn at h
    split at h
    · exact rn_pos cs (j + 1) r h
    · split at h
      · exact rn_pos cs 0 r h
      · rcases List.mem_cons.mp h with rfl | h
        · omega
        · exact rn_pos cs 0 r h
-- the lines that fit, the first run having j cells already
def fitJ (j : Nat) (rs : List Nat) (s : Sg) : List (List Int) := (everyM s.length).filter fun cs => agr s cs && (rn j cs == rs)
abbrev fit (rs : List Nat) (s : Sg) : List (List Int) := fitJ 0 rs s
theorem fitJ_nil (j : Nat) (rs : List Nat) : fitJ j rs [] = if (if j = 0 then [] else [j]) = rs then [[]] else [] := by
  show ([[]] : List (List Int)).filter _ = _
  by_cases h : (if j = 0 then [] else [j]) = rs
  · rw [if_pos h]
    simp [agr, rn, h]
  · rw [if_neg h]
    simp [agr, rn, h]
theorem fitJ_cons (j : Nat) (rs : List Nat) (c : Option Int) (s : Sg) : fitJ j rs (c :: s) =
    (if c = none ∨ c = some 0 then (if j = 0 then (fitJ 0 rs s) else match rs with | r :: rs' => if j = r then fitJ 0 rs' s else [] | [] => []).map (fun cs => 0 :: cs) else []) ++
    (if c = none ∨ c = some 1 then (fitJ (j + 1) rs s).map (fun cs => 1 :: cs) else []) := by
  unfold fitJ
  show ((everyM s.length).map (fun r => 0 :: r) ++ (everyM s.length).map (fun r => 1 :: r)).filter _ = _
  rw [List.filter_append, List.filter_map, List.filter_map]
  congr 1
  · by_cases hc : c = none ∨ c = some 0
    · rw [if_pos hc]
      congr 1
      by_cases hj : j = 0
      · subst hj
        rw [if_pos rfl]
        apply List.filter_congr
        intro cs _
        rcases hc with rfl | rfl <;> simp [agr, rn]
      · rw [if_neg hj]
        cases rs with
        | nil =>
          simp only
          apply List.filter_eq_nil_iff.mpr
          intro cs _
          simp [agr, rn, hj]
        | cons r rs' =>
          simp only
          by_cases hr : j = r
          · rw [if_pos hr]
            apply List.filter_congr
            intro cs _
            rcases hc with rfl | rfl <;> simp [agr, rn, hj, hr] <;> (subst hr; simp [hj])
          · rw [if_neg hr]
            apply List.filter_eq_nil_iff.mpr
            intro cs _
            simp [agr, rn, hj, hr]
    · rw [if_neg hc]
      rw [List.map_eq_nil_iff]
      apply List.filter_eq_nil_iff.mpr
      intro cs _
      have h1 : (c == none) = false := beq_eq_false_iff_ne.mpr fun z => hc (.inl z)
      have h2 : (c == some 0) = false := beq_eq_false_iff_ne.mpr fun z => hc (.inr z)
      simp [agr, h1, h2]
  · by_cases hc : c = none ∨ c = some 1
    · rw [if_pos hc]
      congr 1
      apply List.filter_congr
      intro cs _
      rcases hc with rfl | rfl <;> simp [agr, rn]
    · rw [if_neg hc]
      rw [List.map_eq_nil_iff]
      apply List.filter_eq_nil_iff.mpr
      intro cs _
      have h1 : (c == none) = false := beq_eq_false_iff_ne.mpr fun z => hc (.inl z)
      have h2 : (c == some 1) = false := beq_eq_false_iff_ne.mpr fun z => hc (.inr z)
      simp [agr, h1, h2]
-- room for n more full cells, then an empty one or the end
def roomN (n : Nat) (s : Sg) : Bool := decide (n ≤ s.length) && (s.take n).all (fun c => !(c == some 0)) && (s[n]? != some (some 1))
-- n full cells and, if there is one more, an empty one
def blk (n : Nat) (s : Sg) : List Int := List.replicate n 1 ++ if n < s.length then [0] else []
-- all cells told are 0 or 1
def Bits (s : Sg) : Prop := ∀ c ∈ s, c = none ∨ c = some 0 ∨ c = some 1
theorem fitJ_over : ∀ (s : Sg) (j r : Nat) (rs : List Nat), r < j → fitJ j (r :: rs) s = []
  | [], j, r, rs, h => by
    rw [fitJ_nil, if_neg (show ¬ j = 0 by omega), if_neg]
    intro e
    injection e with e _
    omega
  | c :: s, j, r, rs, h => by
    rw [fitJ_cons, fitJ_over s (j + 1) r rs (by omega), if_neg (show ¬ j = 0 by omega)]
    simp only
    rw [if_neg (show ¬ j = r by omega)]
    simp
theorem fitJ_blk : ∀ (n : Nat) (s : Sg) (j : Nat) (rs : List Nat), Bits s → 0 < j → fitJ j ((j + n) :: rs) s = if roomN n s then (fit rs (s.drop (n + 1))).map (fun cs => blk n s ++ cs) else []
  | 0, [], j, rs, _, hj => by
    rw [fitJ_nil, if_neg (show ¬ j = 0 by omega)]
    have hr : roomN 0 ([] : Sg) = true := rfl
    rw [hr, if_pos rfl]
    show _ = (fitJ 0 rs []).map _
    rw [fitJ_nil]
    cases rs with
    | nil => simp [blk]
    | cons r rs => simp
  | 0, c :: s, j, rs, hb, hj => by
    rw [fitJ_cons, fitJ_over s (j + 1) (j + 0) rs (by omega), if_neg (show ¬ j = 0 by omega)]
    simp only [Nat.add_zero, if_true, List.map_nil]
    have e : (if c = none ∨ c = some 1 then ([] : List (List Int)) else []) = [] := by split <;> rfl
    rw [e, List.append_nil]
    have hc := hb c List.mem_cons_self
    by_cases h1 : c = some 1
    · subst h1
      rw [if_neg (by simp)]
      rfl
    · have h2 : c = none ∨ c = some 0 := by rcases hc with z | z | z <;> simp_all
      rw [if_pos h2]
      have hr : roomN 0 (c :: s) = true := by
        unfold roomN
        simp [h1]
      rw [hr, if_pos rfl]
      simp [blk]
  | n + 1, [], j, rs, _, hj => by
    rw [fitJ_nil, if_neg (show ¬ j = 0 by omega)]
    have hr : roomN (n + 1) ([] : Sg) = false := by simp [roomN]
    rw [hr]
    rw [if_neg Bool.false_ne_true, if_neg]
    intro e
    injection e with e _
    omega
  | n + 1, c :: s, j, rs, hb, hj => by
    rw [fitJ_cons, if_neg (show ¬ j = 0 by omega)]
    simp only
    rw [if_neg (show ¬ j = j + (n + 1) by omega)]
    have ih := fitJ_blk n s (j + 1) rs (fun x hx => hb x (List.mem_cons_of_mem _ hx)) (by omega)
    rw [show j + 1 + n = j + (n + 1) by omega] at ih
    rw [ih]
    have e : (if c = none ∨ c = some 0 then ([] : List (List Int)).map (fun cs => 0 :: cs) else []) = [] := by split <;> rfl
    rw [e, List.nil_append]
    have hc := hb c List.mem_cons_self
    by_cases h0 : c = some 0
    · subst h0
      rw [if_neg (by simp)]
      have hr : roomN (n + 1) (some 0 :: s) = false := by simp [roomN]
      rw [hr]
      rfl
    · have h2 : c = none ∨ c = some 1 := by rcases hc with z | z | z <;> simp_all
      rw [if_pos h2]
      have hr : roomN (n + 1) (c :: s) = roomN n s := by
        unfold roomN
        have h9 : (c == some 0) = false := beq_eq_false_iff_ne.mpr h0
        simp [h9]
      rw [hr]
      by_cases hq : roomN n s = true
      · rw [if_pos hq, if_pos hq, List.map_map]
        have e2 : ∀ cs : List Int, (1 : Int) :: (blk n s ++ cs) = blk (n + 1) (c :: s) ++ cs := fun cs => by
          unfold blk
          simp [List.replicate_succ]
        simp [e2]
      · rw [if_neg hq, if_neg hq]
        rfl
-- the layings, from the first cell on
theorem fit_nil (rs : List Nat) : fit rs [] = if rs = [] then [[]] else [] := by
  show fitJ 0 rs [] = _
  rw [fitJ_nil, if_pos rfl]
  cases rs <;> simp
def fitRun (rs : List Nat) (s : Sg) : List (List Int) := match rs with
  | [] => []
  | r :: rs' => if roomN r s then (fit rs' (s.drop (r + 1))).map (fun cs => blk r s ++ cs) else []
theorem fit_cons (rs : List Nat) (c : Option Int) (s : Sg) (hb : Bits (c :: s)) (hp : ∀ r ∈ rs, 0 < r) : fit rs (c :: s) =
    (if c = some 1 then [] else (fit rs s).map (fun cs => 0 :: cs)) ++
    fitRun rs (c :: s) := by
  unfold fitRun
  show fitJ 0 rs (c :: s) = _
  rw [fitJ_cons]
  have hc := hb c List.mem_cons_self
  congr 1
  · rw [if_pos rfl]
    by_cases h1 : c = some 1
    · subst h1
      simp
    · have h2 : c = none ∨ c = some 0 := by rcases hc with z | z | z <;> simp_all
      rw [if_pos h2, if_neg h1]
  · cases rs with
    | nil =>
      have e : ∀ (s : Sg) (j : Nat), 0 < j → fitJ j [] s = [] := fun s => by
        induction s with
        | nil =>
          intro j hj
          rw [fitJ_nil, if_neg (show ¬ j = 0 by omega)]
          simp
        | cons c s ih =>
          intro j hj
          rw [fitJ_cons, ih (j + 1) (by omega), if_neg (show ¬ j = 0 by omega)]
          simp
      rw [e s 1 (by omega)]
      simp
    | cons r rs' =>
      have hr := hp r List.mem_cons_self
      obtain ⟨n, rfl⟩ : ∃ n, r = 1 + n := ⟨r - 1, by omega⟩
      have ih := fitJ_blk n s 1 rs' (fun x hx => hb x (List.mem_cons_of_mem _ hx)) (by omega)
      simp only [Nat.zero_add]
      rw [ih]
      by_cases h0 : c = some 0
      · subst h0
        rw [if_neg (by simp)]
        have hr : roomN (1 + n) (some 0 :: s) = false := by rw [Nat.add_comm]; simp [roomN]
        rw [hr]
        rfl
      · have h2 : c = none ∨ c = some 1 := by rcases hc with z | z | z <;> simp_all
        rw [if_pos h2]
        have hr : roomN (1 + n) (c :: s) = roomN n s := by
          rw [Nat.add_comm]
          unfold roomN
          have h9 : (c == some 0) = false := beq_eq_false_iff_ne.mpr h0
          simp [h9]
        rw [hr]
        by_cases hq : roomN n s = true
        · rw [if_pos hq, if_pos hq, List.map_map]
          have e2 : ∀ cs : List Int, (1 : Int) :: (blk n s ++ cs) = blk (1 + n) (c :: s) ++ cs := fun cs => by
            unfold blk
            rw [Nat.add_comm 1 n]
            simp [List.replicate_succ]
          rw [show (c :: s).drop (1 + n + 1) = s.drop (n + 1) by rw [show 1 + n + 1 = (n + 1) + 1 by omega]; rfl]
          simp [e2]
        · rw [if_neg hq, if_neg hq]
          rfl
end RP
namespace RP
open PySem L2
def cD : Option Int → PyData
  | none => .none
  | some i => .int i
abbrev SL (s : Sg) : PyData := .list (s.map cD)
abbrev RU (rs : List Nat) : PyData := .tuple (rs.map fun r : Nat => .int (r : Int))
@[simp] theorem mkE_cD (c : Option Int) : mkE (cD c) = .d (cD c) := by cases c <;> rfl
@[simp] theorem mkV_cD (c : Option Int) : mkV (cD c) = .d (cD c) := by cases c <;> rfl
@[simp] theorem lf_cD (c : Option Int) : lf (cD c) = true := by cases c <;> rfl
@[simp] theorem pln_cD (c : Option Int) : pln (cD c) = true := by cases c <;> rfl
@[simp] theorem shk_cD (n : Nat) (c : Option Int) : shk n (cD c) = true := by cases c <;> cases n <;> rfl
theorem cD_inj {a b : Option Int} : cD a = cD b ↔ a = b := by
  cases a <;> cases b <;> simp [cD]
@[simp] theorem lfs_RU (rs : List Nat) : lfs (rs.map fun r : Nat => PyData.int (r : Int)) = true := lfs_all (fun r : Nat => PyData.int (r : Int)) (fun _ => rfl) rs
@[simp] theorem shk_SL (n : Nat) (s : Sg) : shk (n + 1) (.list (s.map cD)) = true := by
  show (s.map cD).all (shk n) = true
  rw [List.all_map, List.all_eq_true]
  exact fun c _ => shk_cD n c
@[simp] theorem pln_SL (s : Sg) : pln (.list (s.map cD)) = true := plns_all _ s fun c _ => pln_cD c
@[simp] theorem gNe_c1 (c : Option Int) (i : Int) : gNe [.d (cD c), .d (.int i)] = some (.d (.bool (!decide (c = some i)))) :=
  gNe_data (x := cD c) (y := .int i) rfl rfl (shk_cD 40 c) rfl (pln_cD c) rfl (by
    rw [decide_eq_true_eq]
    exact (cD_inj (b := some i)).symm)
@[simp] theorem gEq_c1 (c : Option Int) (i : Int) : gEq [.d (cD c), .d (.int i)] = some (.d (.bool (decide (c = some i)))) :=
  gEq_data (x := cD c) (y := .int i) rfl rfl (shk_cD 40 c) rfl (pln_cD c) rfl (by
    rw [decide_eq_true_eq]
    exact (cD_inj (b := some i)).symm)
theorem isN_cD (c : Option Int) : gD (gIsN false) [.d (cD c), .d .none] = some (.d (.bool (decide (c = none)))) := by
  cases c <;> rfl
theorem notN_cD (c : Option Int) : gD (gIsN true) [.d (cD c), .d .none] = some (.d (.bool (!decide (c = none)))) := by
  cases c <;> rfl
-- slices
theorem cutL_nat {α : Type} (xs : List α) (a b : Nat) (h1 : a ≤ b) (h2 : b ≤ xs.length) : cutL xs (some (a : Int)) (some (b : Int)) = (xs.drop a).take (b - a) := by
  unfold cutL
  rw [HT.sIx_nat, HT.sIx_nat]
  rw [show min a xs.length = a by omega, show min b xs.length = b by omega]
theorem gCut_e (xs : List PyData) (lo hi : Option Int) : gCut (.e (.list xs)) lo hi = some (.ol (cutL (xs.map mkE) lo hi)) := rfl
-- 0 in ..
theorem gIn0_c (s : Sg) : gIn [.d (.int 0), .ol (s.map fun c => .d (cD c))] = some (.d (.bool (s.any fun c => c == some 0))) := by
  have e : ∀ s : Sg, ((s.map cD).any fun z => PyData.eqv z (.int 0)) = s.any fun c => c == some 0 := fun s => by
    rw [List.any_map]
    congr 1
    funext c
    show PyData.eqv (cD c) (.int 0) = _
    rw [Bool.eq_iff_iff, eqv_iff _ _ (pln_cD c) rfl, beq_iff_eq]
    exact cD_inj (b := some 0)
  have hs := shk_SL 39 s
  simp only [gIn, gD_def, datas_cons, data_d, data_ol, datas_mapf, datas_nil, Option.map_some, Option.bind_some, gInD]
  rw [hs]
  simp [shk, e]
-- tables
def rowT (m : Nat) (T : Nat → Int) : List Int := (List.range (m + 1)).map T
def tabT (n m : Nat) (T : Nat → Nat → Int) : List (List Int) := (List.range (n + 1)).map fun i => rowT m (T i)
def upT (T : Nat → Nat → Int) (i k : Nat) (v : Int) : Nat → Nat → Int := fun a b => if a = i ∧ b = k then v else T a b
theorem rowT_len (m : Nat) (T : Nat → Int) : (rowT m T).length = m + 1 := by simp [rowT]
theorem tabT_len (n m : Nat) (T : Nat → Nat → Int) : (tabT n m T).length = n + 1 := by simp [tabT]
theorem rowT_get {m k : Nat} {T : Nat → Int} (h : k ≤ m) : (rowT m T)[k]? = some (T k) := by
  unfold rowT
  rw [List.getElem?_map, List.getElem?_range (by omega)]
  rfl
theorem tabT_get {n m i : Nat} {T : Nat → Nat → Int} (h : i ≤ n) : (tabT n m T)[i]? = some (rowT m (T i)) := by
  unfold tabT
  rw [List.getElem?_map, List.getElem?_range (by omega)]
  rfl
theorem atI_row {m k : Nat} {T : Nat → Int} (h : k ≤ m) : atI (rowT m T) (k : Int) = some (T k) := by rw [RP.atI_nat, rowT_get h]
theorem atI_tab {n m i : Nat} {T : Nat → Nat → Int} (h : i ≤ n) : atI (tabT n m T) (i : Int) = some (rowT m (T i)) := by rw [RP.atI_nat, tabT_get h]
theorem tabT_set {n m i k : Nat} {T : Nat → Nat → Int} {v : Int} (hi : i ≤ n) (hk : k ≤ m) : (tabT n m T).set i ((rowT m (T i)).set k v) = tabT n m (upT T i k v) := by
  apply List.ext_getElem?
  intro a
  by_cases ha : a = i
  · subst ha
    rw [List.getElem?_set_self (by rw [tabT_len]; omega), tabT_get hi]
    congr 1
    apply List.ext_getElem?
    intro b
    by_cases hb : b = k
    · subst hb
      rw [List.getElem?_set_self (by rw [rowT_len]; omega), rowT_get hk]
      simp [upT]
    · rw [List.getElem?_set_ne (Ne.symm hb)]
      by_cases hbm : b ≤ m
      · rw [rowT_get hbm, rowT_get hbm]
        simp [upT, hb]
      · rw [List.getElem?_eq_none (by rw [rowT_len]; omega), List.getElem?_eq_none (by rw [rowT_len]; omega)]
  · rw [List.getElem?_set_ne (Ne.symm ha)]
    by_cases han : a ≤ n
    · rw [tabT_get han, tabT_get han]
      congr 1
      unfold rowT
      apply List.map_congr_left
      intro b _
      simp [upT, ha]
    · rw [List.getElem?_eq_none (by rw [tabT_len]; omega), List.getElem?_eq_none (by rw [tabT_len]; omega)]
-- how many layings from the cell i on, k runs laid
def wyM (rs : List Nat) (s : Sg) (i k : Nat) : Int := ((fit (rs.drop k) (s.drop i)).length : Nat)
def roomAt (r : Nat) (s : Sg) (i : Nat) : Bool := roomN r (s.drop i)
theorem wyM_end (rs : List Nat) (s : Sg) (k : Nat) (hk : k ≤ rs.length) : wyM rs s s.length k = if k = rs.length then 1 else 0 := by
  unfold wyM
  rw [List.drop_length, fit_nil]
  by_cases h : k = rs.length
  · subst h
    rw [List.drop_length, if_pos rfl, if_pos rfl]; rfl
  · rw [if_neg h, if_neg]
    · rfl
    · rw [List.drop_eq_nil_iff]
      omega
theorem wyM_step (rs : List Nat) (s : Sg) (i k : Nat) (hb : Bits s) (hp : ∀ r ∈ rs, 0 < r) (hi : i < s.length) :
    wyM rs s i k = (if s[i] = some 1 then 0 else wyM rs s (i + 1) k) + (if h : k < rs.length then (if roomAt rs[k] s i then wyM rs s (min s.length (i + rs[k] + 1)) (k + 1) else 0) else 0) := by
  unfold wyM roomAt
  have hd : s.drop i = s[i] :: s.drop (i + 1) := List.drop_eq_getElem_cons hi
  have hb' : Bits (s[i] :: s.drop (i + 1)) := fun c hc => hb c (by
    rw [← hd] at hc
    exact List.mem_of_mem_drop hc)
  rw [hd, fit_cons _ _ _ hb' fun r hr => hp r (List.mem_of_mem_drop hr), List.length_append]
  rw [Int.natCast_add]
  congr 1
  · split
    · rfl
    · rw [List.length_map]
  · by_cases hk : k < rs.length
    · rw [dif_pos hk, List.drop_eq_getElem_cons hk]
      unfold fitRun
      simp only
      split
      · rw [List.length_map, ← hd, List.drop_drop]
        congr 2
        rw [show i + (rs[k] + 1) = i + rs[k] + 1 by omega]
        by_cases hle : i + rs[k] + 1 ≤ s.length
        · rw [show min s.length (i + rs[k] + 1) = i + rs[k] + 1 by omega]
        · rw [show min s.length (i + rs[k] + 1) = s.length by omega, List.drop_length, show s.drop (i + rs[k] + 1) = [] from List.drop_eq_nil_of_le (by omega)]
      · rfl
    · rw [dif_neg hk, List.drop_eq_nil_of_le (by omega)]
      rfl
end RP
namespace RP
open PySem L2
def lessM (rs : List Nat) (s : Sg) (i k : Nat) : Nat := if (s[i]?).getD none = some 1 then 0 else (fit (rs.drop k) (s.drop (i + 1))).length
theorem bits_drop {s : Sg} (hb : Bits s) (i : Nat) : Bits (s.drop i) := fun c hc => hb c (List.mem_of_mem_drop hc)
theorem step_lay (rs : List Nat) (s : Sg) (hb : Bits s) (hp : ∀ r ∈ rs, 0 < r) (i k num : Nat) (cs : List Int) (hi : i < s.length) (h : (fit (rs.drop k) (s.drop i))[num]? = some cs) :
    (num < lessM rs s i k → ∃ cs', cs = 0 :: cs' ∧ (fit (rs.drop k) (s.drop (i + 1)))[num]? = some cs') ∧
    (¬ num < lessM rs s i k → ∃ (hk : k < rs.length) (cs' : List Int), roomAt rs[k] s i = true ∧ cs = blk rs[k] (s.drop i) ++ cs' ∧ (fit (rs.drop (k + 1)) (s.drop (i + rs[k] + 1)))[num - lessM rs s i k]? = some cs') := by
  have hd : s.drop i = s[i] :: s.drop (i + 1) := List.drop_eq_getElem_cons hi
  have hb' : Bits (s[i] :: s.drop (i + 1)) := by rw [← hd]; exact bits_drop hb i
  have hf := fit_cons (rs.drop k) s[i] (s.drop (i + 1)) hb' fun r hr => hp r (List.mem_of_mem_drop hr)
  rw [← hd] at hf
  have hl : (if s[i] = some 1 then [] else (fit (rs.drop k) (s.drop (i + 1))).map (fun cs => (0 : Int) :: cs)).length = lessM rs s i k := by
    unfold lessM
    rw [List.getElem?_eq_getElem hi, Option.getD_some]
    split
    · rfl
    · rw [List.length_map]
  rw [hf] at h
  constructor
  · intro hlt
    rw [List.getElem?_append_left (by rw [hl]; exact hlt)] at h
    by_cases h1 : s[i] = some 1
    · rw [if_pos h1] at h
      simp at h
    · rw [if_neg h1, List.getElem?_map] at h
      obtain ⟨cs', h2, rfl⟩ := Option.map_eq_some_iff.mp h
      exact ⟨cs', rfl, h2⟩
  · intro hge
    rw [List.getElem?_append_right (by rw [hl]; omega), hl] at h
    unfold fitRun at h
    by_cases hk : k < rs.length
    · rw [List.drop_eq_getElem_cons hk] at h
      simp only at h
      by_cases hr : roomN rs[k] (s.drop i) = true
      · rw [if_pos hr, List.getElem?_map] at h
        obtain ⟨cs', h2, rfl⟩ := Option.map_eq_some_iff.mp h
        rw [List.drop_drop, show i + (rs[k] + 1) = i + rs[k] + 1 by omega] at h2
        exact ⟨hk, cs', hr, rfl, h2⟩
      · rw [if_neg hr] at h
        simp at h
    · rw [List.drop_eq_nil_of_le (show rs.length ≤ k by omega)] at h
      simp at h
theorem end_lay (rs : List Nat) (k num : Nat) (cs : List Int) (h : (fit (rs.drop k) [])[num]? = some cs) : num = 0 ∧ cs = [] := by
  rw [fit_nil] at h
  split at h
  · cases num with
    | zero => simpa using h.symm
    | succ n => simp at h
  · simp at h
theorem blk_len (r : Nat) (s : Sg) (i : Nat) (hi : i ≤ s.length) (hr : roomAt r s i = true) : i + (blk r (s.drop i)).length = min s.length (i + r + 1) ∧ r ≤ s.length - i := by
  unfold roomAt roomN at hr
  rw [Bool.and_eq_true, Bool.and_eq_true, decide_eq_true_eq, List.length_drop] at hr
  have h1 := hr.1.1
  unfold blk
  rw [List.length_append, List.length_replicate, List.length_drop]
  refine ⟨?_, h1⟩
  split
  · show i + (r + 1) = _
    omega
  · show i + (r + 0) = _
    omega
-- what fits, told of the line
theorem every_mem : ∀ (n : Nat) (cs : List Int), cs ∈ everyM n ↔ cs.length = n ∧ ∀ c ∈ cs, c = 0 ∨ c = 1
  | 0, cs => by
    show cs ∈ [[]] ↔ _
    cases cs <;> simp
  | n + 1, cs => by
    show cs ∈ (everyM n).map (fun r => 0 :: r) ++ (everyM n).map (fun r => 1 :: r) ↔ _
    rw [List.mem_append, List.mem_map, List.mem_map]
    constructor
    · rintro (⟨r, hr, rfl⟩ | ⟨r, hr, rfl⟩)
      · obtain ⟨h1, h2⟩ := (every_mem n r).mp hr
        refine ⟨by rw [List.length_cons, h1], fun c hc => ?_⟩
        rcases List.mem_cons.mp hc with rfl | hc
        · exact .inl rfl
        · exact h2 c hc
      · obtain ⟨h1, h2⟩ := (every_mem n r).mp hr
        refine ⟨by rw [List.length_cons, h1], fun c hc => ?_⟩
        rcases List.mem_cons.mp hc with rfl | hc
        · exact .inr rfl
        · exact h2 c hc
    · rintro ⟨h1, h2⟩
      cases cs with
      | nil => cases h1
      | cons c r =>
        have hr : r ∈ everyM n := (every_mem n r).mpr ⟨by simpa using h1, fun x hx => h2 x (List.mem_cons_of_mem _ hx)⟩
        rcases h2 c List.mem_cons_self with rfl | rfl
        · exact .inl ⟨r, hr, rfl⟩
        · exact .inr ⟨r, hr, rfl⟩
theorem fit_mem (rs : List Nat) (s : Sg) (cs : List Int) : cs ∈ fit rs s ↔ cs.length = s.length ∧ (∀ c ∈ cs, c = 0 ∨ c = 1) ∧ agr s cs = true ∧ rn 0 cs = rs := by
  show cs ∈ (everyM s.length).filter _ ↔ _
  rw [List.mem_filter, every_mem, Bool.and_eq_true, beq_iff_eq]
  constructor
  · rintro ⟨⟨h1, h2⟩, h3, h4⟩
    exact ⟨h1, h2, h3, h4⟩
  · rintro ⟨h1, h2, h3, h4⟩
    exact ⟨⟨h1, h2⟩, h3, h4⟩
theorem every_nodup : ∀ n : Nat, (everyM n).Nodup
  | 0 => by simp [everyM]
  | n + 1 => by
    show ((everyM n).map (fun r => 0 :: r) ++ (everyM n).map (fun r => 1 :: r)).Nodup
    refine List.nodup_append.mpr ⟨?_, ?_, ?_⟩
    · exact List.Pairwise.map _ (fun a b h => by simpa using h) (every_nodup n)
    · exact List.Pairwise.map _ (fun a b h => by simpa using h) (every_nodup n)
    · intro a ha b hb e
      obtain ⟨_, _, rfl⟩ := List.mem_map.mp ha
      obtain ⟨_, _, rfl⟩ := List.mem_map.mp hb
      simp at e
theorem fit_nodup (rs : List Nat) (s : Sg) : (fit rs s).Nodup := List.Pairwise.filter _ (every_nodup _)
theorem fit_len (rs : List Nat) (s : Sg) {num : Nat} {cs : List Int} (h : (fit rs s)[num]? = some cs) : cs.length = s.length := ((fit_mem rs s cs).mp (List.mem_of_getElem? h)).1
end RP
namespace RP
open PySem L2
theorem gAllD_f {α : Type} (f : α → Bool) (xs : List α) : gAllD [.list (xs.map fun p => .bool (f p))] = some (.bool (xs.all f)) := by
  have h : boolsD (xs.map fun p => PyData.bool (f p)) = some (xs.map f) := by
    rw [show (xs.map fun p => PyData.bool (f p)) = (xs.map f).map PyData.bool by rw [List.map_map]; rfl]
    exact boolsD_map _
  show (boolsD _).map _ = _
  rw [h]
  show some (PyData.bool ((xs.map f).all id)) = _
  rw [List.all_map]
  rfl
theorem zipT_map {α β : Type} (f : α → PyData) (g : β → PyData) : ∀ (xs : List α) (ys : List β), zipT (xs.map fun a => .d (f a)) (ys.map fun b => .d (g b)) = (xs.zip ys).map fun p => .d (.tuple [f p.1, g p.2])
  | [], ys => by simp [zipT]
  | _ :: _, [] => by simp [zipT]
  | x :: xs, y :: ys => by
    rw [List.map_cons, List.map_cons, zipT, zipT_map f g xs ys, List.zip_cons_cons, List.map_cons]
    rfl
theorem agr_zip : ∀ (s : Sg) (cs : List Int), cs.length = s.length → (s.zip cs).all (fun p => p.1 == none || p.1 == some p.2) = agr s cs
  | [], [], _ => rfl
  | c :: s, x :: cs, h => by
    rw [List.zip_cons_cons, List.all_cons, agr, agr_zip s cs (by simpa using h)]
  | [], _ :: _, h => by cases h
  | _ :: _, [], h => by cases h
theorem RU_rn (cs : List Int) : (.tuple ((runsM cs).map .int) : PyData) = RU (rn 0 cs) := by
  rw [runsM_rn, List.map_map]
  rfl
theorem RU_inj {a b : List Nat} : (a.map fun r : Nat => PyData.int (r : Int)) = (b.map fun r : Nat => .int (r : Int)) ↔ a = b := List.map_inj_right fun x y h => by injection h with h; omega
@[simp] theorem shk_RU (n : Nat) (rs : List Nat) : shk (n + 1) (.tuple (rs.map fun r : Nat => .int (r : Int))) = true := by
  show (rs.map fun r : Nat => PyData.int (r : Int)).all (shk n) = true
  rw [List.all_map, List.all_eq_true]
  intro x _
  cases n <;> rfl
@[simp] theorem pln_RU (rs : List Nat) : pln (.tuple (rs.map fun r : Nat => .int (r : Int))) = true := plns_all _ rs fun _ _ => rfl
@[simp] theorem gNe_RU (a b : List Nat) : gNe [.d (RU a), .d (RU b)] = some (.d (.bool (!decide (a = b)))) :=
  gNe_data (data_d _) (data_d _) (shk_RU 39 _) (shk_RU 39 _) (pln_RU _) (pln_RU _) (by simp [RU_inj])
@[simp] theorem gEq_RU (a b : List Nat) : gEq [.d (RU a), .d (RU b)] = some (.d (.bool (decide (a = b)))) :=
  gEq_data (data_d _) (data_d _) (shk_RU 39 _) (shk_RU 39 _) (pln_RU _) (pln_RU _) (by simp [RU_inj])
end RP
namespace RP
open PySem L2
theorem every_len : ∀ n : Nat, (everyM n).length = 2 ^ n
  | 0 => rfl
  | n + 1 => by
    show ((everyM n).map (fun r => 0 :: r) ++ (everyM n).map (fun r => 1 :: r)).length = _
    rw [List.length_append, List.length_map, List.length_map, every_len n, Nat.pow_succ]
    omega
theorem every_le {n : Nat} (h : n ≤ 8) : (everyM n).length ≤ 256 := by
  rw [every_len]
  exact Nat.pow_le_pow_right (by omega) h
theorem gAdd_lv (x : Int) (r : List Int) (h : r.length ≤ 90000) : gAdd [.ol [.d (.int x)], .v (.list (r.map .int))] = some (.ol ((x :: r).map fun i => .d (.int i))) := by
  show gCat [.ol [.d (.int x)], .v (.list (r.map .int))] = _
  unfold gCat
  simp only [kids_ol, kids_vl]
  rw [if_pos (by simp; omega)]
  simp
theorem gEq_lnil (xs : List Int) : gEq [.d (.list (xs.map .int)), .ol []] = some (.d (.bool (decide (xs = [])))) :=
  gEq_data (x := .list (xs.map .int)) (y := .list []) rfl rfl (shk_ints 39 _) rfl (pln_ints _) rfl (by
    rw [decide_eq_true_eq]
    constructor
    · rintro rfl; rfl
    · intro h
      injection h with h
      simpa using h)
theorem agr_iff : ∀ (s : Sg) (cs : List Int), cs.length = s.length → (agr s cs = true ↔ ∀ i, i < s.length → s[i]? = some none ∨ s[i]? = some (cs[i]?))
  | [], [], _ => by simp [agr]
  | c :: s, x :: cs, h => by
    rw [agr, Bool.and_eq_true, agr_iff s cs (by simpa using h)]
    constructor
    · rintro ⟨h1, h2⟩ i hi
      cases i with
      | zero =>
        rw [Bool.or_eq_true, beq_iff_eq, beq_iff_eq] at h1
        rcases h1 with rfl | rfl
        · exact .inl rfl
        · exact .inr rfl
      | succ i =>
        have := h2 i (by simpa using hi)
        simpa using this
    · intro h1
      refine ⟨?_, fun i hi => by simpa using h1 (i + 1) (by simpa using hi)⟩
      rw [Bool.or_eq_true, beq_iff_eq, beq_iff_eq]
      rcases h1 0 (by simp) with h | h
      · exact .inl (by simpa using h)
      · exact .inr (by simpa using h)
  | [], _ :: _, h => by cases h
  | _ :: _, [], h => by cases h
end RP
namespace RP
open PySem L2
theorem ll_any (cs : List Int) (L : List (List Int)) : (L.map fun r => PyData.list (r.map .int)).any (fun z => PyData.eqv z (.list (cs.map .int))) = decide (cs ∈ L) := by
  rw [List.any_map, Bool.eq_iff_iff, decide_eq_true_eq, List.any_eq_true]
  constructor
  · rintro ⟨x, hx, h⟩
    have h2 := (eqv_iff _ _ (pln_ints x) (pln_ints cs)).mp h
    injection h2 with h2
    rw [← int_inj.mp h2]
    exact hx
  · intro h
    exact ⟨cs, h, (eqv_iff _ _ (pln_ints cs) (pln_ints cs)).mpr rfl⟩
theorem gIn_LL {t : Tr} (cs : List Int) (L : List (List Int)) (ht : data t = some (.list (cs.map .int))) : gIn [t, .d (LL L)] = some (.d (.bool (decide (cs ∈ L)))) := by
  have h1 := shk_ints 39 cs
  have h2 := shk_LL 38 L
  simp only [gIn, gD_def, datas_cons, ht, data_d, datas_nil, Option.map_some, Option.bind_some, gInD]
  rw [h1, h2, ll_any]
  simp
theorem find_at {α : Type} [DecidableEq α] (p : α → Bool) : ∀ (L : List α) (i : Nat) (x : α), L.Nodup → L[i]? = some x → p x = true → (∀ y ∈ L, p y = true → y = x) → L.findIdx? p = some i
  | [], _, _, _, h, _, _ => by simp at h
  | y :: L, 0, x, _, h, hp, _ => by
    have e : y = x := by simpa using h
    subst e
    rw [List.findIdx?_cons, hp]; rfl
  | y :: L, i + 1, x, nd, h, hp, hq => by
    have h' : L[i]? = some x := by simpa using h
    rw [List.nodup_cons] at nd
    have ny : p y = false := by
      cases e : p y with
      | false => rfl
      | true =>
        have := hq y List.mem_cons_self e
        subst this
        exact absurd (List.mem_of_getElem? h') nd.1
    have ih := find_at p L i x nd.2 h' hp fun z hz => hq z (List.mem_cons_of_mem _ hz)
    rw [List.findIdx?_cons, ny, ih]; rfl
theorem gIndex_LL {t : Tr} (cs : List Int) (L : List (List Int)) (i : Nat) (ht : data t = some (.list (cs.map .int))) (nd : L.Nodup) (hi : L[i]? = some cs) : gD gIndexD [.d (LL L), t] = some (.d (.int i)) := by
  have h1 := shk_ints 39 cs
  have h2 := shk_LL 38 L
  simp only [gD_def, datas_cons, ht, data_d, datas_nil, Option.map_some, Option.bind_some, gIndexD]
  rw [h1, h2]
  have hf : (L.map fun r => PyData.list (r.map .int)).findIdx? (fun z => PyData.eqv z (.list (cs.map .int))) = some i := by
    rw [List.findIdx?_map]
    refine find_at _ L i cs nd hi ((eqv_iff _ _ (pln_ints cs) (pln_ints cs)).mpr rfl) fun y _ h => ?_
    have h3 := (eqv_iff _ _ (pln_ints y) (pln_ints cs)).mp h
    injection h3 with h3
    exact int_inj.mp h3
  rw [hf]
  rfl
theorem SL_some (cs : List Int) : (.list (cs.map .int) : PyData) = SL (cs.map some) := by
  show PyData.list _ = PyData.list _
  rw [List.map_map]
  rfl
end RP
namespace RP
open PySem L2
def ff (rs : List Nat) (s : Sg) (i k : Nat) : List (List Int) := fit (rs.drop k) (s.drop i)
theorem ff_over (rs : List Nat) (s : Sg) (j k : Nat) : fit (rs.drop k) (s.drop j) = ff rs s (min s.length j) k := by
  unfold ff
  by_cases h : j ≤ s.length
  · rw [Nat.min_eq_right h]
  · rw [Nat.min_eq_left (by omega), List.drop_length, List.drop_eq_nil_of_le (show s.length ≤ j by omega)]
theorem ff_step (rs : List Nat) (s : Sg) (hb : Bits s) (hp : ∀ r ∈ rs, 0 < r) (i k : Nat) (cs : List Int) (hi : i < s.length) : cs ∈ ff rs s i k ↔
    (s[i] ≠ some 1 ∧ ∃ cs', cs = 0 :: cs' ∧ cs' ∈ ff rs s (i + 1) k) ∨ ∃ (hk : k < rs.length) (cs' : List Int), roomAt rs[k] s i = true ∧ cs = blk rs[k] (s.drop i) ++ cs' ∧ cs' ∈ ff rs s (min s.length (i + rs[k] + 1)) (k + 1) := by
  have hd : s.drop i = s[i] :: s.drop (i + 1) := List.drop_eq_getElem_cons hi
  have hb' : Bits (s[i] :: s.drop (i + 1)) := by rw [← hd]; exact bits_drop hb i
  have hf := fit_cons (rs.drop k) s[i] (s.drop (i + 1)) hb' fun r hr => hp r (List.mem_of_mem_drop hr)
  rw [← hd] at hf
  have h0 : ff rs s i k = fit (rs.drop k) (s.drop i) := rfl
  rw [h0, hf, List.mem_append]
  refine or_congr ?_ ?_
  · by_cases h1 : s[i] = some 1
    · rw [if_pos h1]
      exact ⟨fun h => (by cases h), fun h => absurd h1 h.1⟩
    · rw [if_neg h1, List.mem_map]
      exact ⟨fun ⟨c, h2, h3⟩ => ⟨h1, c, h3.symm, h2⟩, fun ⟨_, c, h2, h3⟩ => ⟨c, h3, h2.symm⟩⟩
  · unfold fitRun
    by_cases hk : k < rs.length
    · rw [List.drop_eq_getElem_cons hk]
      simp only
      by_cases hr : roomN rs[k] (s.drop i) = true
      · rw [if_pos hr, List.mem_map, List.drop_drop, show i + (rs[k] + 1) = i + rs[k] + 1 by omega, ff_over]
        exact ⟨fun ⟨c, h2, h3⟩ => ⟨hk, c, hr, h3.symm, h2⟩, fun ⟨_, c, _, h2, h3⟩ => ⟨c, h3, h2.symm⟩⟩
      · rw [if_neg hr]
        exact ⟨fun h => (by cases h), fun ⟨_, c, h2, _⟩ => absurd h2 hr⟩
    · rw [List.drop_eq_nil_of_le (show rs.length ≤ k by omega)]
      exact ⟨fun h => (by cases h), fun ⟨h, _⟩ => absurd h hk⟩
structure MI (rs : List Nat) (s : Sg) (i0 kp : Nat) (e f : Nat → Bool) (C : Nat → Nat → Bool) : Prop where
  so : ∀ a k, C a k = true → a ≤ s.length ∧ k ≤ rs.length ∧ ∃ pre : List Int, pre.length = a ∧ ∀ suf ∈ ff rs s a k, pre ++ suf ∈ fit rs s
  se : ∀ i, e i = true → ∃ cs ∈ fit rs s, cs[i]? = some 0
  sf : ∀ i, f i = true → ∃ cs ∈ fit rs s, cs[i]? = some 1
  co : ∀ cs ∈ fit rs s, ∃ a k, C a k = true ∧ (i0 < a ∨ (a = i0 ∧ kp ≤ k)) ∧ cs.drop a ∈ ff rs s a k ∧ ∀ i < a, (cs[i]? = some 0 → e i = true) ∧ (cs[i]? = some 1 → f i = true)
theorem MI.start (rs : List Nat) (s : Sg) : MI rs s 0 0 (fun _ => false) (fun _ => false) (fun a k => decide (a = 0 ∧ k = 0)) where
  so := fun a k h => by
    obtain ⟨rfl, rfl⟩ := of_decide_eq_true h
    exact ⟨Nat.zero_le _, Nat.zero_le _, [], rfl, fun suf h => h⟩
  se := fun i h => by cases h
  sf := fun i h => by cases h
  co := fun cs h => ⟨0, 0, rfl, .inr ⟨rfl, Nat.le_refl _⟩, h, fun i hi => absurd hi (Nat.not_lt_zero _)⟩
theorem MI.row {rs : List Nat} {s : Sg} {i0 : Nat} {e f : Nat → Bool} {C : Nat → Nat → Bool} (h : MI rs s i0 (rs.length + 1) e f C) : MI rs s (i0 + 1) 0 e f C where
  so := h.so
  se := h.se
  sf := h.sf
  co := fun cs hc => by
    obtain ⟨a, k, h1, h2, h3, h4⟩ := h.co cs hc
    have := (h.so a k h1).2.1
    exact ⟨a, k, h1, by omega, h3, h4⟩
theorem blk_get (r : Nat) (s : Sg) (j : Nat) : (j < r → (blk r s)[j]? = some 1) ∧ (j = r → r < s.length → (blk r s)[j]? = some 0) := by
  unfold blk
  constructor
  · intro h
    rw [List.getElem?_append_left (by rw [List.length_replicate]; exact h), List.getElem?_replicate, if_pos h]
  · intro h h2
    rw [List.getElem?_append_right (by rw [List.length_replicate]; omega), List.length_replicate, if_pos h2, h, Nat.sub_self]
    rfl
theorem MI.step {rs : List Nat} {s : Sg} (hb : Bits s) (hp : ∀ r ∈ rs, 0 < r) {i0 k r z : Nat} {e f e' f' : Nat → Bool} {C C' : Nat → Nat → Bool} {c1 c2 : Prop} (hi : i0 < s.length) (h : MI rs s i0 k e f C) (hk : k ≤ rs.length)
    (hc1 : c1 ↔ C i0 k = true ∧ s[i0] ≠ some 1 ∧ ff rs s (i0 + 1) k ≠ []) (hc2 : c2 ↔ C i0 k = true ∧ ∃ hk : k < rs.length, r = rs[k] ∧ roomAt r s i0 = true ∧ z = min s.length (i0 + r + 1) ∧ ff rs s z (k + 1) ≠ [])
    (hr : ∀ hk : k < rs.length, rs[k] = r) (hz : z = min s.length (i0 + r + 1))
    (he : ∀ i, e' i = true ↔ e i = true ∨ (c1 ∧ i = i0) ∨ (c2 ∧ i0 + r ≤ i ∧ i < z)) (hf : ∀ i, f' i = true ↔ f i = true ∨ (c2 ∧ i0 ≤ i ∧ i < i0 + r))
    (hC : ∀ a b, C' a b = true ↔ C a b = true ∨ (c1 ∧ a = i0 + 1 ∧ b = k) ∨ (c2 ∧ a = z ∧ b = k + 1)) : MI rs s i0 (k + 1) e' f' C' where
  so := fun a b q0 => by
    rcases (hC a b).mp q0 with q | ⟨q, rfl, rfl⟩ | ⟨q, rfl, rfl⟩
    · exact h.so a b q
    · obtain ⟨h1, h2, h3⟩ := hc1.mp q
      obtain ⟨_, h5, pre, h6, h7⟩ := h.so _ _ h1
      refine ⟨hi, h5, pre ++ [0], by rw [List.length_append, h6]; rfl, fun suf hs => ?_⟩
      rw [List.append_assoc]
      exact h7 _ ((ff_step rs s hb hp i0 b _ hi).mpr (.inl ⟨h2, suf, rfl, hs⟩))
    · obtain ⟨h1, hk2, h2, h3, h4, h5⟩ := hc2.mp q
      obtain ⟨_, _, pre, h6, h7⟩ := h.so _ _ h1
      have h8 := (blk_len r s i0 (Nat.le_of_lt hi) h3).1
      refine ⟨by omega, hk2, pre ++ blk r (s.drop i0), by rw [List.length_append, h6, h8, ← h4], fun suf hs => ?_⟩
      rw [List.append_assoc]
      refine h7 _ ((ff_step rs s hb hp i0 k _ hi).mpr (.inr ⟨hk2, suf, by rw [← h2]; exact h3, by rw [← h2], ?_⟩))
      rw [← h2, ← h4]
      exact hs
  se := fun i q0 => by
    rcases (he i).mp q0 with q | ⟨q, rfl⟩ | ⟨q, q1, q2⟩
    · exact h.se i q
    · obtain ⟨h1, h2, h3⟩ := hc1.mp q
      obtain ⟨_, h5, pre, h6, h7⟩ := h.so _ _ h1
      obtain ⟨suf, hs⟩ := List.exists_mem_of_ne_nil _ h3
      refine ⟨_, h7 _ ((ff_step rs s hb hp i k _ hi).mpr (.inl ⟨h2, suf, rfl, hs⟩)), ?_⟩
      rw [List.getElem?_append_right (by omega), h6, Nat.sub_self]
      rfl
    · obtain ⟨h1, hk2, h2, h3, h4, h5⟩ := hc2.mp q
      obtain ⟨_, _, pre, h6, h7⟩ := h.so _ _ h1
      obtain ⟨suf, hs⟩ := List.exists_mem_of_ne_nil _ h5
      have h8 := blk_len r s i0 (Nat.le_of_lt hi) h3
      refine ⟨_, h7 _ ((ff_step rs s hb hp i0 k _ hi).mpr (.inr ⟨hk2, suf, by rw [← h2]; exact h3, rfl, by rw [← h2, ← h4]; exact hs⟩)), ?_⟩
      rw [List.getElem?_append_right (by omega), h6, List.getElem?_append_left (by rw [← h2]; omega), ← h2]
      exact (blk_get r (s.drop i0) (i - i0)).2 (by omega) (by rw [List.length_drop]; omega)
  sf := fun i q => by
    rcases (hf i).mp q with q | ⟨q, q1, q2⟩
    · exact h.sf i q
    · obtain ⟨h1, hk2, h2, h3, h4, h5⟩ := hc2.mp q
      obtain ⟨_, _, pre, h6, h7⟩ := h.so _ _ h1
      obtain ⟨suf, hs⟩ := List.exists_mem_of_ne_nil _ h5
      have h8 := blk_len r s i0 (Nat.le_of_lt hi) h3
      refine ⟨_, h7 _ ((ff_step rs s hb hp i0 k _ hi).mpr (.inr ⟨hk2, suf, by rw [← h2]; exact h3, rfl, by rw [← h2, ← h4]; exact hs⟩)), ?_⟩
      rw [List.getElem?_append_right (by omega), h6, List.getElem?_append_left (by rw [← h2]; omega), ← h2]
      exact (blk_get r (s.drop i0) (i - i0)).1 (by omega)
  co := fun cs hc => by
    obtain ⟨a, k0, h1, h2, h3, h4⟩ := h.co cs hc
    have up : ∀ i, (cs[i]? = some 0 → e i = true) ∧ (cs[i]? = some 1 → f i = true) → (cs[i]? = some 0 → e' i = true) ∧ (cs[i]? = some 1 → f' i = true) := fun i q => ⟨fun y => (he i).mpr (.inl (q.1 y)), fun y => (hf i).mpr (.inl (q.2 y))⟩
    by_cases hx : a = i0 ∧ k0 = k
    · obtain ⟨rfl, rfl⟩ := hx
      have old : ∀ i, a ≤ i → cs[i]? = (cs.drop a)[i - a]? := fun i hi => by rw [List.getElem?_drop, show a + (i - a) = i by omega]
      rcases (ff_step rs s hb hp a k0 _ hi).mp h3 with ⟨g1, cs', g2, g3⟩ | ⟨g0, cs', g1, g2, g3⟩
      · have q1 : c1 := hc1.mpr ⟨h1, g1, fun z => by rw [z] at g3; cases g3⟩
        refine ⟨a + 1, k0, (hC _ _).mpr (.inr (.inl ⟨q1, rfl, rfl⟩)), .inl (Nat.lt_succ_self _), ?_, fun i hi' => ?_⟩
        · rw [← List.drop_drop, g2]
          exact g3
        · by_cases y : i < a
          · exact up i (h4 i y)
          · have ei : i = a := by omega
            subst ei
            rw [old i (Nat.le_refl _), g2, Nat.sub_self]
            exact ⟨fun _ => (he i).mpr (.inr (.inl ⟨q1, rfl⟩)), fun y => by simp at y⟩
      · have hr' := hr g0
        rw [hr'] at g1 g2 g3
        rw [← hz] at g3
        have q1 : c2 := hc2.mpr ⟨h1, g0, hr'.symm, g1, hz, fun z => by rw [z] at g3; cases g3⟩
        have h8 := blk_len r s a (Nat.le_of_lt hi) g1
        have hr0 : 0 < r := by rw [← hr']; exact hp _ (List.getElem_mem g0)
        refine ⟨z, k0 + 1, (hC _ _).mpr (.inr (.inr ⟨q1, rfl, rfl⟩)), .inl (by omega), ?_, fun i hi' => ?_⟩
        · have e1 : z = a + (blk r (s.drop a)).length := by rw [h8.1, hz]
          rw [e1, ← List.drop_drop, g2, List.drop_left, ← e1]
          exact g3
        · by_cases y : i < a
          · exact up i (h4 i y)
          · rw [old i (by omega), g2, List.getElem?_append_left (by omega)]
            by_cases y2 : i - a < r
            · rw [(blk_get r (s.drop a) (i - a)).1 y2]
              exact ⟨fun y => by simp at y, fun _ => (hf i).mpr (.inr ⟨q1, by omega, by omega⟩)⟩
            · rw [(blk_get r (s.drop a) (i - a)).2 (by omega) (by rw [List.length_drop]; omega)]
              exact ⟨fun _ => (he i).mpr (.inr (.inr ⟨q1, by omega, hi'⟩)), fun y => by simp at y⟩
    · exact ⟨a, k0, (hC _ _).mpr (.inl h1), by omega, h3, fun i hi => up i (h4 i hi)⟩
theorem MI.done {rs : List Nat} {s : Sg} {e f : Nat → Bool} {C : Nat → Nat → Bool} (h : MI rs s s.length 0 e f C) (i : Nat) (hi : i < s.length) : (e i = true ↔ ∃ cs ∈ fit rs s, cs[i]? = some 0) ∧ (f i = true ↔ ∃ cs ∈ fit rs s, cs[i]? = some 1) := by
  constructor
  · refine ⟨h.se i, fun ⟨cs, h1, h2⟩ => ?_⟩
    obtain ⟨a, k, h3, h4, h5, h6⟩ := h.co cs h1
    exact (h6 i (by omega)).1 h2
  · refine ⟨h.sf i, fun ⟨cs, h1, h2⟩ => ?_⟩
    obtain ⟨a, k, h3, h4, h5, h6⟩ := h.co cs h1
    exact (h6 i (by omega)).2 h2
-- rows of truth values
def bT (n : Nat) (e : Nat → Bool) : List Bool := (List.range n).map e
def upB (e : Nat → Bool) (i : Nat) (b : Bool) : Nat → Bool := fun j => if j = i then b else e j
abbrev OB (n : Nat) (e : Nat → Bool) : Tr := .ol ((bT n e).map fun b => .d (.bool b))
@[simp] theorem bT_len (n : Nat) (e : Nat → Bool) : (bT n e).length = n := by simp [bT]
theorem bT_get {n i : Nat} {e : Nat → Bool} (h : i < n) : (bT n e)[i]? = some (e i) := by
  unfold bT
  rw [List.getElem?_map, List.getElem?_range h]; rfl
theorem atI_bT {n i : Nat} {e : Nat → Bool} (h : i < n) : atI (bT n e) (i : Int) = some (e i) := by rw [RP.atI_nat, bT_get h]
theorem bT_set (n i : Nat) (e : Nat → Bool) (b : Bool) : (bT n e).set i b = bT n (upB e i b) := by
  apply List.ext_getElem?
  intro j
  rw [List.getElem?_set]
  by_cases h : j < n
  · rw [bT_get h, bT_get h, bT_len]
    unfold upB
    by_cases q : i = j
    · rw [if_pos q, if_pos (by omega), if_pos q.symm]
    · rw [if_neg q, if_neg (by omega)]
  · rw [List.getElem?_eq_none (by rw [bT_len]; omega), List.getElem?_eq_none (by rw [bT_len]; omega), bT_len]
    split
    · rw [if_neg (by omega)]
    · rfl
theorem bT_congr {n : Nat} {e f : Nat → Bool} (h : ∀ i, i < n → e i = f i) : bT n e = bT n f := List.map_congr_left fun i hi => h i (List.mem_range.mp hi)
theorem bT_setO (n i : Nat) (e : Nat → Bool) (b : Bool) : ((bT n e).map fun b => Tr.d (.bool b)).set i (.d (.bool b)) = (bT n (upB e i b)).map fun b => .d (.bool b) := by rw [← List.map_set, bT_set]
-- the keys of a table of places
def ck (a k : Nat) : List Key := [.inl (a : Int), .inl (k : Int)]
theorem ck_inj {a b c d : Nat} : ck a b = ck c d ↔ a = c ∧ b = d := by
  unfold ck
  constructor
  · intro h
    injection h with h1 h2
    injection h2 with h2 _
    injection h1 with h1
    injection h2 with h2
    omega
  · rintro ⟨rfl, rfl⟩; rfl
def cT (kvs : List (List Key × V)) (a k : Nat) : Bool := (valV kvs (ck a k)).isSome
theorem cT_put (kvs : List (List Key × V)) (a k : Nat) (v : V) (b l : Nat) : cT (putK kvs (ck a k) v) b l = (cT kvs b l || decide (b = a ∧ l = k)) := by
  unfold cT
  rw [valV_put]
  by_cases h : b = a ∧ l = k
  · rw [if_pos (ck_inj.mpr h), decide_eq_true h, Bool.or_true]; rfl
  · rw [if_neg fun z => h (ck_inj.mp z), decide_eq_false h, Bool.or_false]
theorem keyT_two (a k : Int) : keyT (.d (.tuple [.int a, .int k])) = some [.inl a, .inl k] := rfl
-- what all layings have
def has (rs : List Nat) (s : Sg) (i : Nat) (v : Int) : Bool := (fit rs s).any fun cs => cs[i]? == some v
theorem has_iff (rs : List Nat) (s : Sg) (i : Nat) (v : Int) : has rs s i v = true ↔ ∃ cs ∈ fit rs s, cs[i]? = some v := by
  unfold has
  rw [List.any_eq_true]
  exact ⟨fun ⟨c, h1, h2⟩ => ⟨c, h1, by simpa using h2⟩, fun ⟨c, h1, h2⟩ => ⟨c, h1, by simpa using h2⟩⟩
def bestC (rs : List Nat) (s : Sg) (i : Nat) : Option Int := match s[i]? with
  | some none => if has rs s i 0 = has rs s i 1 then none else some (if has rs s i 1 then 1 else 0)
  | some c => c
  | none => none
def bestM (rs : List Nat) (s : Sg) : Sg := (List.range s.length).map (bestC rs s)
@[simp] theorem e_inDt {fa : En → Rs Tr} {i : Nat} {en : En} : dInDt fa i en = (fa en).bind fun t => Rs.of ((keyT t).bind fun k => (dtAt en i).map fun kvs => .d (.bool (valV kvs k).isSome)) := Eq.trans rfl rfl
@[simp] theorem e_putDt {fk fv : En → Rs Tr} {i : Nat} {en : En} : dPutDt i fk fv en = onR (fv en) en fun u => onR (Rs.of (dtAt en i)) en fun kvs => onR (fk en) en fun t => onR (Rs.of (keyT t)) en fun k => onR (Rs.of (valT u)) en fun v =>
  if kvs.length < 100000 then .nx (en.set i (some (.dt (putK kvs k v)))) else .no := Eq.trans rfl rfl
@[simp] theorem e_dict1 {fk fv : En → Rs Tr} {en : En} : dDict1 fk fv en = (fk en).bind fun t => (fv en).bind fun u => Rs.of ((keyT t).bind fun k => (valT u).map fun v => .dt [(k, v)]) := Eq.trans rfl rfl
@[simp] theorem dtAt_5 {a0 a1 a2 a3 a4 : Option Tr} {kvs : List (List Key × V)} {r : En} : dtAt (a0 :: a1 :: a2 :: a3 :: a4 :: some (.dt kvs) :: r) 5 = some kvs := rfl
@[simp] theorem keyT_2 (a k : Int) : keyT (.d (.tuple [.int a, .int k])) = some [.inl a, .inl k] := rfl
@[simp] theorem valT_b (b : Bool) : valT (.d (.bool b)) = some (.bl b) := rfl
theorem cT_def (kvs : List (List Key × V)) (a k : Nat) : (valV kvs [.inl (a : Int), .inl (k : Int)]).isSome = cT kvs a k := rfl
theorem ck_1 (a k : Nat) : ([.inl ((a : Int) + 1), .inl (k : Int)] : List Key) = ck (a + 1) k := rfl
theorem ck_2 (a k : Nat) : ([.inl (a : Int), .inl ((k : Int) + 1)] : List Key) = ck a (k + 1) := rfl
theorem wy_pos (rs : List Nat) (s : Sg) (a k : Nat) : 0 < wyM rs s a k ↔ ff rs s a k ≠ [] := by
  unfold wyM ff
  cases h : fit (rs.drop k) (s.drop a) with
  | nil => simp
  | cons x r =>
    rw [List.length_cons]
    exact ⟨fun _ z => (by cases z), fun _ => by omega⟩
@[simp] theorem noV_dt (kvs : List (List Key × V)) : noV (.dt kvs) = true := rfl
@[simp] theorem mkTp_ol2 (xs ys : List Tr) : mkTp [.ol xs, .ol ys] = .tp [.ol xs, .ol ys] := rfl
-- a list exchanged item by item
theorem swap_set {α : Type} {A B : List α} (h : A.length = B.length) {j : Nat} (hj : j < A.length) : (A.take j ++ B.drop j).set j A[j] = A.take (j + 1) ++ B.drop (j + 1) := by
  have l1 : (A.take j).length = j := by rw [List.length_take]; omega
  have e : (A.take j ++ B.drop j).set j A[j] = A.take j ++ (B.drop j).set 0 A[j] := by
    have := List.set_append_right (s := A.take j) (t := B.drop j) j A[j] (by omega)
    rw [this, l1, Nat.sub_self]
  rw [e, List.drop_eq_getElem_cons (show j < B.length by omega), List.set_cons_zero, List.take_succ_eq_append_getElem hj, List.append_assoc]
  rfl
theorem swap_id {α : Type} {A B : List α} {j : Nat} (hj : j < A.length) (hj' : j < B.length) (e : A[j] = B[j]) : A.take j ++ B.drop j = A.take (j + 1) ++ B.drop (j + 1) := by
  rw [List.drop_eq_getElem_cons hj', List.take_succ_eq_append_getElem hj, List.append_assoc, e]
  rfl
@[simp] theorem bestM_len (rs : List Nat) (s : Sg) : (bestM rs s).length = s.length := by simp [bestM]
theorem bestM_get (rs : List Nat) (s : Sg) {i : Nat} (h : i < s.length) : (bestM rs s)[i]'(by rw [bestM_len]; exact h) = bestC rs s i := by
  unfold bestM
  rw [List.getElem_map, List.getElem_range]
theorem bestM_get? (rs : List Nat) (s : Sg) {i : Nat} (h : i < s.length) : (bestM rs s)[i]? = some (bestC rs s i) := by
  rw [List.getElem?_eq_getElem (by rw [bestM_len]; exact h), bestM_get rs s h]
@[simp] theorem gNe_bb (a b : Bool) : gNe [.d (.bool a), .d (.bool b)] = some (.d (.bool (a != b))) := by cases a <;> cases b <;> rfl
@[simp] theorem gEq_bb (a b : Bool) : gEq [.d (.bool a), .d (.bool b)] = some (.d (.bool (a == b))) := by cases a <;> cases b <;> rfl
@[simp] theorem gIntD_b (b : Bool) : gIntD [.bool b] = some (.int (if b then 1 else 0)) := by cases b <;> rfl
@[simp] theorem gIntD_i (i : Int) : gIntD [.int i] = some (.int i) := rfl
theorem e_unp {b : Bool} {i j : Nat} {fa : En → Rs Tr} {en : En} {t x y : Tr} {dx dy : PyData} (h : fa en = .ok t) (hk : kids t = some (false, [x, y])) (cx : clean x = true) (cy : clean y = true) (hx : data x = some dx) (hy : data y = some dy) (hi : i < en.length) (hj : j < en.length) (ne : i ≠ j) :
    dUnp b i j fa en = .nx ((en.set i (some (.d dx))).set j (some (.d dy))) := by
  unfold dUnp
  rw [h]
  show (match kids t with
    | some (false, [x, y]) => if noV x && noV y && clean x && clean y && decide (i < en.length) && decide (j < en.length) && decide (i ≠ j) then (match data x, data y with
      | some dx, some dy => SR.nx ((en.set i (some (.d dx))).set j (some (.d dy)))
      | _, _ => .no) else .no
    | _ => .no) = _
  rw [hk]
  simp only [hx, hy]
  rw [if_pos]
  simp [clean_noV x cx, clean_noV y cy, cx, cy, hi, hj, ne]
theorem clean_olf {α : Type} (f : α → PyData) (xs : List α) : clean (.ol (xs.map fun a => .d (f a))) = true := by
  show cleans (xs.map fun a => .d (f a)) = true
  induction xs with
  | nil => rfl
  | cons x r ih =>
    rw [List.map_cons]
    show (clean (.d (f x)) && cleans (r.map fun a => .d (f a))) = true
    rw [ih]; rfl
theorem fit_told (rs : List Nat) (s : Sg) {cs : List Int} (h : cs ∈ fit rs s) {j : Nat} {c : Int} (hj : s[j]? = some (some c)) : cs[j]? = some c := by
  obtain ⟨f1, f2, f3, f4⟩ := (fit_mem rs s cs).mp h
  have hl : j < s.length := (List.getElem?_eq_some_iff.mp hj).1
  rcases (agr_iff s cs f1).mp f3 j hl with h1 | h1
  · rw [hj] at h1; cases h1
  · rw [hj] at h1
    exact (Option.some.inj h1).symm
theorem fit_bit (rs : List Nat) (s : Sg) {cs : List Int} (h : cs ∈ fit rs s) {j : Nat} (hj : j < s.length) : cs[j]? = some 0 ∨ cs[j]? = some 1 := by
  obtain ⟨f1, f2, f3, f4⟩ := (fit_mem rs s cs).mp h
  have hj' : j < cs.length := by omega
  rw [List.getElem?_eq_getElem hj']
  rcases f2 _ (List.getElem_mem hj') with h | h <;> rw [h]
  · exact .inl rfl
  · exact .inr rfl
theorem has_no (rs : List Nat) (s : Sg) (i : Nat) (v : Int) : has rs s i v = false ↔ ∀ cs ∈ fit rs s, cs[i]? ≠ some v := by
  constructor
  · intro h cs hc z
    have := (has_iff rs s i v).mpr ⟨cs, hc, z⟩
    rw [h] at this; cases this
  · intro h
    cases q : has rs s i v with
    | false => rfl
    | true =>
      obtain ⟨cs, h1, h2⟩ := (has_iff rs s i v).mp q
      exact absurd h2 (h cs h1)
theorem bestC_spec (rs : List Nat) (s : Sg) (ne : fit rs s ≠ []) {j : Nat} (hj : j < s.length) :
    (bestC rs s j = none ∧ s[j] = none ∧ has rs s j 0 = true ∧ has rs s j 1 = true) ∨
    (bestC rs s j = some 0 ∧ has rs s j 0 = true ∧ has rs s j 1 = false ∧ (s[j] = none ∨ s[j] = some 0)) ∨ (bestC rs s j = some 1 ∧ has rs s j 0 = false ∧ has rs s j 1 = true ∧ (s[j] = none ∨ s[j] = some 1)) := by
  obtain ⟨cs, hc⟩ := List.exists_mem_of_ne_nil _ ne
  have hs : s[j]? = some s[j] := List.getElem?_eq_getElem hj
  have one : has rs s j 0 = true ∨ has rs s j 1 = true := by
    rcases fit_bit rs s hc hj with h | h
    · exact .inl ((has_iff _ _ _ _).mpr ⟨cs, hc, h⟩)
    · exact .inr ((has_iff _ _ _ _).mpr ⟨cs, hc, h⟩)
  unfold bestC
  rw [hs]
  cases q : s[j] with
  | none =>
    cases h0 : has rs s j 0 <;> cases h1 : has rs s j 1
    · rw [h0, h1] at one; simp at one
    · simp
    · simp
    · simp
  | some c =>
    have all : ∀ cs ∈ fit rs s, cs[j]? = some c := fun cs hc => fit_told rs s hc (by rw [hs, q])
    rcases fit_bit rs s hc hj with h | h
    · have ec : c = 0 := by
        have := all cs hc
        rw [h] at this
        exact (Option.some.inj this).symm
      subst ec
      have n1 : has rs s j 1 = false := (has_no _ _ _ _).mpr fun cs hc z => by rw [all cs hc] at z; simp at z
      have y0 : has rs s j 0 = true := (has_iff _ _ _ _).mpr ⟨cs, hc, h⟩
      simp [n1, y0]
    · have ec : c = 1 := by
        have := all cs hc
        rw [h] at this
        exact (Option.some.inj this).symm
      subst ec
      have n1 : has rs s j 0 = false := (has_no _ _ _ _).mpr fun cs hc z => by rw [all cs hc] at z; simp at z
      have y0 : has rs s j 1 = true := (has_iff _ _ _ _).mpr ⟨cs, hc, h⟩
      simp [n1, y0]
theorem min_bits {xs : List Int} (hb : ∀ c ∈ xs, c = 0 ∨ c = 1) (ne : xs ≠ []) : xs.min? = some (if (0 : Int) ∈ xs then 0 else 1) := by
  rw [List.min?_eq_some_iff]
  by_cases h : (0 : Int) ∈ xs
  · rw [if_pos h]
    exact ⟨h, fun b hc => by rcases hb b hc with z | z <;> omega⟩
  · rw [if_neg h]
    obtain ⟨c, hc⟩ := List.exists_mem_of_ne_nil _ ne
    refine ⟨?_, fun b hc => ?_⟩
    · rcases hb c hc with z | z
      · rw [z] at hc; exact absurd hc h
      · rw [← z]; exact hc
    · rcases hb b hc with z | z
      · rw [z] at hc; exact absurd hc h
      · omega
theorem max_bits {xs : List Int} (hb : ∀ c ∈ xs, c = 0 ∨ c = 1) (ne : xs ≠ []) : xs.max? = some (if (1 : Int) ∈ xs then 1 else 0) := by
  rw [List.max?_eq_some_iff]
  by_cases h : (1 : Int) ∈ xs
  · rw [if_pos h]
    exact ⟨h, fun b hc => by rcases hb b hc with z | z <;> omega⟩
  · rw [if_neg h]
    obtain ⟨c, hc⟩ := List.exists_mem_of_ne_nil _ ne
    refine ⟨?_, fun b hc => ?_⟩
    · rcases hb c hc with z | z
      · rw [← z]; exact hc
      · rw [z] at hc; exact absurd hc h
    · rcases hb b hc with z | z
      · omega
      · rw [z] at hc; exact absurd hc h
end RP
namespace RP
open PySem L2
theorem fit_def (rs : List Nat) (s : Sg) : fit rs s = (everyM s.length).filter fun cs => agr s cs && (rn 0 cs == rs) := rfl
theorem bestC_bit (rs : List Nat) (s : Sg) (ne : fit rs s ≠ []) {j : Nat} (hj : j < s.length) {v : Int} (h : bestC rs s j = some v) : (v = 0 ∨ v = 1) ∧ ∀ cs ∈ fit rs s, cs[j]? = some v := by
  rcases bestC_spec rs s ne hj with ⟨g1, _⟩ | ⟨g1, g2, g3, _⟩ | ⟨g1, g2, g3, _⟩
  · rw [g1] at h; cases h
  · rw [g1] at h; cases h
    refine ⟨.inl rfl, fun cs hc => ?_⟩
    rcases fit_bit rs s hc hj with z | z
    · exact z
    · exact absurd z ((has_no _ _ _ _).mp g3 cs hc)
  · rw [g1] at h; cases h
    refine ⟨.inr rfl, fun cs hc => ?_⟩
    rcases fit_bit rs s hc hj with z | z
    · exact absurd z ((has_no _ _ _ _).mp g2 cs hc)
    · exact z
theorem bestC_told (rs : List Nat) (s : Sg) (ne : fit rs s ≠ []) {j : Nat} (hj : j < s.length) {v : Int} (h : s[j] = some v) : bestC rs s j = some v := by
  unfold bestC
  rw [List.getElem?_eq_getElem hj, h]
theorem bestM_bits (rs : List Nat) (s : Sg) (ne : fit rs s ≠ []) : Bits (bestM rs s) := fun c hc => by
  obtain ⟨j, hj, rfl⟩ := List.mem_map.mp hc
  have hj := List.mem_range.mp hj
  cases h : bestC rs s j with
  | none => exact .inl rfl
  | some v => rcases (bestC_bit rs s ne hj h).1 with rfl | rfl <;> simp
theorem fit_best (rs : List Nat) (s : Sg) (ne : fit rs s ≠ []) : fit rs (bestM rs s) = fit rs s := by
  rw [fit_def, fit_def, bestM_len]
  apply List.filter_congr
  intro cs hc
  obtain ⟨h1, h2⟩ := (every_mem _ cs).mp hc
  rw [Bool.eq_iff_iff, Bool.and_eq_true, Bool.and_eq_true, beq_iff_eq]
  constructor
  · rintro ⟨h3, h4⟩
    refine ⟨(agr_iff s cs h1).mpr fun i hi => ?_, h4⟩
    have hs : s[i]? = some s[i] := List.getElem?_eq_getElem hi
    cases q : s[i] with
    | none => rw [hs, q]; exact .inl rfl
    | some v =>
      have hb := bestC_told rs s ne hi q
      rcases (agr_iff _ cs (by rw [bestM_len]; exact h1)).mp h3 i (by rw [bestM_len]; exact hi) with z | z
      · rw [bestM_get? rs s hi, hb] at z; cases z
      · rw [bestM_get? rs s hi, hb] at z
        rw [hs, q]; exact .inr z
  · rintro ⟨h3, h4⟩
    have hm : cs ∈ fit rs s := (fit_mem rs s cs).mpr ⟨h1, h2, h3, h4⟩
    refine ⟨(agr_iff _ cs (by rw [bestM_len]; exact h1)).mpr fun i hi => ?_, h4⟩
    rw [bestM_len] at hi
    rw [bestM_get? rs s hi]
    cases q : bestC rs s i with
    | none => exact .inl rfl
    | some v => exact .inr (by rw [(bestC_bit rs s ne hi q).2 cs hm])
theorem bestM_idem (rs : List Nat) (s : Sg) (ne : fit rs s ≠ []) : bestM rs (bestM rs s) = bestM rs s := by
  have hf := fit_best rs s ne
  have hh : ∀ i v, has rs (bestM rs s) i v = has rs s i v := fun i v => by unfold has; rw [hf]
  show (List.range (bestM rs s).length).map (bestC rs (bestM rs s)) = bestM rs s
  rw [bestM_len]
  show _ = (List.range s.length).map (bestC rs s)
  apply List.map_congr_left
  intro j hj
  have hj := List.mem_range.mp hj
  show bestC rs (bestM rs s) j = bestC rs s j
  conv => lhs; unfold bestC
  rw [bestM_get? rs s hj, hh, hh]
  rcases bestC_spec rs s ne hj with ⟨g1, g2, g3, g4⟩ | ⟨g1, g2, g3, _⟩ | ⟨g1, g2, g3, _⟩
  · rw [g1, g3, g4]; rfl
  · rw [g1]
  · rw [g1]
theorem fit_set (rs : List Nat) (s : Sg) {i : Nat} (hi : i < s.length) (hn : s[i] = none) (v : Int) (cs : List Int) : cs ∈ fit rs (s.set i (some v)) ↔ cs ∈ fit rs s ∧ cs[i]? = some v := by
  rw [fit_mem, fit_mem, List.length_set]
  constructor
  · rintro ⟨h1, h2, h3, h4⟩
    have h5 := (agr_iff _ cs (by rw [List.length_set]; exact h1)).mp h3
    refine ⟨⟨h1, h2, (agr_iff s cs h1).mpr fun j hj => ?_, h4⟩, ?_⟩
    · by_cases e : i = j
      · subst e
        exact .inl (by rw [List.getElem?_eq_getElem hj, hn])
      · have := h5 j (by rw [List.length_set]; exact hj)
        rwa [List.getElem?_set_ne e] at this
    · have := h5 i (by rw [List.length_set]; exact hi)
      rw [List.getElem?_set_self hi] at this
      rcases this with z | z
      · cases z
      · exact (Option.some.inj z).symm
  · rintro ⟨⟨h1, h2, h3, h4⟩, h5⟩
    refine ⟨h1, h2, (agr_iff _ cs (by rw [List.length_set]; exact h1)).mpr fun j hj => ?_, h4⟩
    rw [List.length_set] at hj
    by_cases e : i = j
    · subst e
      rw [List.getElem?_set_self hi]
      exact .inr (by rw [h5])
    · rw [List.getElem?_set_ne e]
      exact (agr_iff s cs h1).mp h3 j hj
theorem fit_set_nil (rs : List Nat) (s : Sg) {i : Nat} (hi : i < s.length) (hn : s[i] = none) (v : Int) : fit rs (s.set i (some v)) = [] ↔ has rs s i v = false := by
  rw [has_no, List.eq_nil_iff_forall_not_mem]
  constructor
  · intro h cs hc z
    exact h cs ((fit_set rs s hi hn v cs).mpr ⟨hc, z⟩)
  · intro h cs hc
    obtain ⟨h1, h2⟩ := (fit_set rs s hi hn v cs).mp hc
    exact h cs h1 h2
theorem cutL_to {α : Type} (xs : List α) (a : Nat) (h : a ≤ xs.length) : cutL xs none (some (a : Int)) = xs.take a := by
  have := cutL_nat xs 0 a (Nat.zero_le _) h
  rw [List.drop_zero, Nat.sub_zero] at this
  exact this
theorem cutL_from {α : Type} (xs : List α) (a : Nat) (h : a ≤ xs.length) : cutL xs (some (a : Int)) none = xs.drop a := by
  have := cutL_nat xs a xs.length h (Nat.le_refl _)
  rw [List.take_of_length_le (by rw [List.length_drop]; omega)] at this
  refine Eq.trans ?_ this
  unfold cutL
  rw [HT.sIx_none, HT.sIx_nat, HT.sIx_nat, Nat.min_self]
theorem gAdd_oo (a b : List Tr) (h : a.length + b.length ≤ 100000) : gAdd [.ol a, .ol b] = some (.ol (a ++ b)) := by
  show gCat [.ol a, .ol b] = _
  unfold gCat
  simp only [kids_ol]
  rw [if_pos h]
theorem gCut_v (xs : List PyData) (lo hi : Option Int) : gCut (.v (.list xs)) lo hi = some (.ol (cutL (xs.map mkV) lo hi)) := rfl
theorem gCut_d (xs : List PyData) (lo hi : Option Int) : gCut (.d (.list xs)) lo hi = some (.ol (cutL (xs.map Tr.d) lo hi)) := rfl
theorem set_cut {α : Type} (xs : List α) (i : Nat) (x : α) (h : i < xs.length) : xs.take i ++ [x] ++ xs.drop (i + 1) = xs.set i x := by
  rw [List.set_eq_take_append_cons_drop, if_pos h, List.append_assoc]
  rfl
theorem gEq_0 (i : Int) : gEq [.d (.int i), .d (.int 0)] = some (.d (.bool (decide (i = 0)))) := by simp
theorem isN_c (c : Option Int) : gIsN false [cD c, .none] = some (.bool (decide (c = none))) := by cases c <;> rfl
theorem notN_c (c : Option Int) : gIsN true [cD c, .none] = some (.bool (!decide (c = none))) := by cases c <;> rfl
end RP
namespace RP
open PySem L2
abbrev Vw := Nat → Nat → Option Int
def upV (V : Vw) (r c : Nat) (v : Option Int) : Vw := fun a b => if a = r ∧ b = c then v else V a b
def lnR (C : Nat) (V : Vw) (r : Nat) : Sg := (List.range C).map (V r)
def lnC (R : Nat) (V : Vw) (c : Nat) : Sg := (List.range R).map fun r => V r c
def vT (R C : Nat) (V : Vw) : List Sg := (List.range R).map (lnR C V)
abbrev OV (R C : Nat) (V : Vw) : Tr := .ol ((vT R C V).map fun s => .ol (s.map fun c => .d (cD c)))
abbrev LV (R C : Nat) (V : Vw) : PyData := .list ((vT R C V).map fun s => .list (s.map cD))
@[simp] theorem lnR_len (C : Nat) (V : Vw) (r : Nat) : (lnR C V r).length = C := by simp [lnR]
@[simp] theorem lnC_len (R : Nat) (V : Vw) (c : Nat) : (lnC R V c).length = R := by simp [lnC]
@[simp] theorem vT_len (R C : Nat) (V : Vw) : (vT R C V).length = R := by simp [vT]
theorem lnR_get {C : Nat} {V : Vw} {r c : Nat} (h : c < C) : (lnR C V r)[c]? = some (V r c) := by
  unfold lnR
  rw [List.getElem?_map, List.getElem?_range h]; rfl
theorem lnC_get {R : Nat} {V : Vw} {r c : Nat} (h : r < R) : (lnC R V c)[r]? = some (V r c) := by
  unfold lnC
  rw [List.getElem?_map, List.getElem?_range h]; rfl
theorem vT_get {R C : Nat} {V : Vw} {r : Nat} (h : r < R) : (vT R C V)[r]? = some (lnR C V r) := by
  unfold vT
  rw [List.getElem?_map, List.getElem?_range h]; rfl
theorem atI_vT {R C : Nat} {V : Vw} {r : Nat} (h : r < R) : atI (vT R C V) (r : Int) = some (lnR C V r) := by rw [RP.atI_nat, vT_get h]
theorem atI_lnR {C : Nat} {V : Vw} {r c : Nat} (h : c < C) : atI (lnR C V r) (c : Int) = some (V r c) := by rw [RP.atI_nat, lnR_get h]
theorem lnR_set (C : Nat) (V : Vw) (r c : Nat) (v : Option Int) : (lnR C V r).set c v = lnR C (upV V r c v) r := by
  apply List.ext_getElem?
  intro j
  by_cases h : j < C
  · rw [List.getElem?_set, lnR_get h, lnR_get h, lnR_len]
    unfold upV
    by_cases q : c = j
    · rw [if_pos q, if_pos (by omega), if_pos ⟨rfl, q.symm⟩]
    · rw [if_neg q, if_neg (by omega)]
  · rw [List.getElem?_eq_none (by rw [List.length_set, lnR_len]; omega), List.getElem?_eq_none (by rw [lnR_len]; omega)]
theorem vT_set (R C : Nat) (V : Vw) (r c : Nat) (v : Option Int) : (vT R C V).set r ((lnR C V r).set c v) = vT R C (upV V r c v) := by
  apply List.ext_getElem?
  intro j
  by_cases h : j < R
  · rw [List.getElem?_set, vT_get h, vT_get h, vT_len]
    by_cases q : r = j
    · rw [if_pos q, if_pos (by omega), lnR_set, q]
    · rw [if_neg q]
      congr 1
      unfold lnR
      apply List.map_congr_left
      intro b _
      unfold upV
      rw [if_neg (by omega)]
  · rw [List.getElem?_eq_none (by rw [List.length_set, vT_len]; omega), List.getElem?_eq_none (by rw [vT_len]; omega)]
theorem put_OV {R C i r c : Nat} {V : Vw} {v : Option Int} {fj fk fl : En → Rs Tr} {en : En} (hi : en[i]? = some (some (OV R C V))) (hr : r < R) (hc : c < C) (hj : fj en = .ok (.d (.int (r : Int)))) (hk : fk en = .ok (.d (.int (c : Int)))) (hl : fl en = .ok (.d (cD v))) :
    dPut (pSub (pN i) fj) fk (dLift fl) en = .nx (en.set i (some (OV R C (upV V r c v)))) := by
  have h0 : pN i en = .ok (i, []) := by
    unfold pN
    rw [hi]
  have h1 : ixN R (r : Int) = some r := ixN_nat hr
  have h2 : ixN C (c : Int) = some c := ixN_nat hc
  have h3 : pSub (pN i) fj en = .ok (i, [r]) := by
    rw [e_pSub, h0]
    simp only [Rs.bind_ok']
    unfold dI
    rw [hj]
    simp [hi, h1, hr]
  have h4 : dI fk en = .ok (c : Int) := by
    unfold dI
    rw [hk]
    rfl
  rw [e_put, e_lift, hl]
  simp only [Rs.bind_ok', onR_ok, h3, h4]
  rw [if_pos (show noV (Tr.d (cD v)) = true from rfl)]
  unfold chg
  rw [hi]
  have hg : ((vT R C V).map fun s => Tr.ol (s.map fun c => Tr.d (cD c)))[r]? = some (.ol ((lnR C V r).map fun c => .d (cD c))) := by
    rw [List.getElem?_map, vT_get hr]; rfl
  have e : (vT R C (upV V r c v)).map (fun s => Tr.ol (s.map fun c => Tr.d (cD c))) = ((vT R C V).map fun s => Tr.ol (s.map fun c => Tr.d (cD c))).set r (.ol (((lnR C V r).map fun c => Tr.d (cD c)).set c (.d (cD v)))) := by
    rw [← vT_set]
    rw [List.map_set, List.map_set]
  have e' : OV R C (upV V r c v) = .ol (((vT R C V).map fun s => Tr.ol (s.map fun c => Tr.d (cD c))).set r (.ol (((lnR C V r).map fun c => Tr.d (cD c)).set c (.d (cD v))))) := congrArg Tr.ol e
  rw [e']
  simp [hg, h2, setN]
def els {β : Type} (o : Option β) (P : β → Prop) (Q : Prop) : Prop := match o with
  | some b => P b
  | none => Q
/-- a loop that may end early -/
theorem forL_M {α β : Type} {T : Tg} {body : DenS} {src : α → Tr} (f : β → α → Option β) (E : β → En → Prop) (stop : SR → Prop) (hs : ∀ r k, stop r → loopR r k = r) : ∀ (xs : List α),
    (∀ a ∈ xs, ∀ b en, E b en → ∃ en1, T (src a) en = some en1 ∧ els (f b a) (fun b' => ∃ en2, body en1 = .nx en2 ∧ E b' en2) (stop (body en1))) → ∀ b en, E b en →
    els (xs.foldlM f b) (fun b' => ∃ en', forL T body (xs.map src) en = .nx en' ∧ E b' en') (stop (forL T body (xs.map src) en))
  | [], _, b, en, h => ⟨en, rfl, h⟩
  | a :: xs, st, b, en, h => by
    obtain ⟨en1, h1, h2⟩ := st a List.mem_cons_self b en h
    rw [List.map_cons]
    have e : forL T body (src a :: xs.map src) en = loopR (body en1) (forL T body (xs.map src)) := by
      show (match T (src a) en with | none => SR.no | some en1 => loopR (body en1) (forL T body (xs.map src))) = _
      rw [h1]
    rw [e, List.foldlM_cons]
    cases q : f b a with
    | none =>
      rw [q] at h2
      have h2 : stop (body en1) := h2
      show stop _
      rw [hs _ _ h2]
      exact h2
    | some b' =>
      rw [q] at h2
      obtain ⟨en2, h3, h4⟩ := h2
      rw [h3, loopR_nx]
      exact forL_M f E stop hs xs (fun a ha => st a (List.mem_cons_of_mem _ ha)) b' en2 h4

/-! ### what is told anew -/
def newsM (old new : Sg) : List (Nat × Option Int) := ((List.range old.length).filter fun i => !(old[i]? == new[i]?)).map fun i => (i, (new[i]?).getD none)
theorem newsM_mem (old new : Sg) (p : Nat × Option Int) : p ∈ newsM old new ↔ p.1 < old.length ∧ old[p.1]? ≠ new[p.1]? ∧ p.2 = (new[p.1]?).getD none := by
  unfold newsM
  rw [List.mem_map]
  constructor
  · rintro ⟨i, h1, rfl⟩
    rw [List.mem_filter, List.mem_range] at h1
    exact ⟨h1.1, by simpa using h1.2, rfl⟩
  · rintro ⟨h1, h2, h3⟩
    exact ⟨p.1, List.mem_filter.mpr ⟨List.mem_range.mpr h1, by simpa using h2⟩, by rw [← h3]⟩
structure Stp where
  col : Bool
  at_ : Nat
  told : List (Nat × Option Int)
def pD (p : Nat × Option Int) : PyData := .tuple [.int (p.1 : Int), cD p.2]
def sdD (c : Bool) : PyData := if c then .str "column" else .str "row"
def stD (x : Stp) : PyData := .tuple [sdD x.col, .int (x.at_ : Int), .list (x.told.map pD)]
def put1 (col : Bool) (i : Nat) (V : Vw) (p : Nat × Option Int) : Vw := if col then upV V p.1 i p.2 else upV V i p.1 p.2
def putS (V : Vw) (x : Stp) : Vw := x.told.foldl (put1 x.col x.at_) V
def lineV (R C : Nat) (V : Vw) (col : Bool) (i : Nat) : Sg := if col then lnC R V i else lnR C V i
def lineR (br bc : List (List Nat)) (col : Bool) (i : Nat) : List Nat := ((if col then bc else br)[i]?).getD []
abbrev Ns := Vw × List Stp × Bool
def lineS (br bc : List (List Nat)) (R C : Nat) (b : Ns) (l : Bool × Nat) : Option Ns :=
  if fit (lineR br bc l.1 l.2) (lineV R C b.1 l.1 l.2) = [] then none
  else if newsM (lineV R C b.1 l.1 l.2) (bestM (lineR br bc l.1 l.2) (lineV R C b.1 l.1 l.2)) = [] then some b
  else some (putS b.1 ⟨l.1, l.2, newsM (lineV R C b.1 l.1 l.2) (bestM (lineR br bc l.1 l.2) (lineV R C b.1 l.1 l.2))⟩,
    b.2.1 ++ [⟨l.1, l.2, newsM (lineV R C b.1 l.1 l.2) (bestM (lineR br bc l.1 l.2) (lineV R C b.1 l.1 l.2))⟩], true)
def linesL (R C : Nat) : List (Bool × Nat) := (List.range R).map (fun i => (false, i)) ++ (List.range C).map (fun i => (true, i))
def roundS (br bc : List (List Nat)) (R C : Nat) (b : Ns) : Option Ns := (linesL R C).foldlM (lineS br bc R C) (b.1, b.2.1, false)
def runS (br bc : List (List Nat)) (R C : Nat) : Nat → Ns → Rs (Vw × List Stp)
  | 0, _ => .no
  | n + 1, b => if b.2.2 then (match roundS br bc R C b with | none => .er "NoLaying" | some b' => runS br bc R C n b') else .ok (b.1, b.2.1)
-- where the cells of a line stand
def pos (col : Bool) (r c : Nat) : Nat := if col then r else c
def lin (col : Bool) (r c : Nat) : Nat := if col then c else r
theorem put_at (col : Bool) (i r c : Nat) (v : Option Int) : ∀ (told : List (Nat × Option Int)) (V : Vw), (∀ p ∈ told, p.1 = pos col r c → p.2 = v) → told.foldl (put1 col i) V r c = if lin col r c = i ∧ (∃ p ∈ told, p.1 = pos col r c) then v else V r c
  | [], V, _ => by
    rw [if_neg (by rintro ⟨_, p, hp, _⟩; cases hp)]; rfl
  | p :: told, V, h => by
    rw [List.foldl_cons, put_at col i r c v told _ fun q hq => h q (List.mem_cons_of_mem _ hq)]
    by_cases h1 : lin col r c = i
    · by_cases h2 : ∃ q ∈ told, q.1 = pos col r c
      · rw [if_pos ⟨h1, h2⟩, if_pos ⟨h1, let ⟨q, a, b⟩ := h2; ⟨q, List.mem_cons_of_mem _ a, b⟩⟩]
      · rw [if_neg fun z => h2 z.2]
        by_cases h3 : p.1 = pos col r c
        · rw [if_pos ⟨h1, p, List.mem_cons_self, h3⟩, ← h p List.mem_cons_self h3]
          unfold put1
          cases col with
          | true => exact if_pos ⟨h3.symm, h1⟩
          | false => exact if_pos ⟨h1, h3.symm⟩
        · have h4 : ¬ (lin col r c = i ∧ ∃ q ∈ p :: told, q.1 = pos col r c) := fun ⟨_, q, a, b⟩ => by
            rcases List.mem_cons.mp a with rfl | a
            · exact h3 b
            · exact h2 ⟨q, a, b⟩
          rw [if_neg h4]
          unfold put1
          cases col with
          | true => exact if_neg fun z => h3 z.1.symm
          | false => exact if_neg fun z => h3 z.2.symm
    · rw [if_neg fun z => h1 z.1, if_neg fun z => h1 z.1]
      unfold put1
      cases col with
      | true => exact if_neg fun z => h1 z.2
      | false => exact if_neg fun z => h1 z.1
theorem lineV_get {R C : Nat} {V : Vw} {col : Bool} {r c : Nat} (hr : r < R) (hc : c < C) : (lineV R C V col (lin col r c))[pos col r c]? = some (V r c) := by
  cases col with
  | true => exact lnC_get hr
  | false => exact lnR_get hc
theorem lineV_len (R C : Nat) (V : Vw) (col : Bool) (i : Nat) : (lineV R C V col i).length = if col then R else C := by
  cases col with
  | true => exact lnC_len R V i
  | false => exact lnR_len C V i
/-- the line stands as told -/
theorem putS_news {R C : Nat} {V : Vw} {col : Bool} {i : Nat} {new : Sg} (hl : new.length = (lineV R C V col i).length) {r c : Nat} (hr : r < R) (hc : c < C) :
    putS V ⟨col, i, newsM (lineV R C V col i) new⟩ r c = if lin col r c = i then (new[pos col r c]?).getD none else V r c := by
  have hpl : pos col r c < (lineV R C V col i).length := by
    rw [lineV_len]
    cases col with
    | true => exact hr
    | false => exact hc
  show (newsM (lineV R C V col i) new).foldl (put1 col i) V r c = _
  rw [put_at col i r c ((new[pos col r c]?).getD none) _ V fun p hp hq => by rw [((newsM_mem _ _ p).mp hp).2.2, hq]]
  by_cases h1 : lin col r c = i
  · rw [if_pos h1]
    subst h1
    by_cases h2 : ∃ p ∈ newsM (lineV R C V col (lin col r c)) new, p.1 = pos col r c
    · rw [if_pos ⟨rfl, h2⟩]
    · rw [if_neg fun z => h2 z.2]
      have h3 : (lineV R C V col (lin col r c))[pos col r c]? = new[pos col r c]? := Classical.byContradiction fun z => h2 ⟨(pos col r c, (new[pos col r c]?).getD none), (newsM_mem _ _ _).mpr ⟨hpl, z, rfl⟩, rfl⟩
      rw [← h3, lineV_get hr hc]; rfl
  · rw [if_neg fun z => h1 z.1, if_neg h1]
end RP
namespace RP
open PySem L2
def VB (R C : Nat) (V : Vw) : Prop := ∀ r c, r < R → c < C → V r c = none ∨ V r c = some 0 ∨ V r c = some 1
def okL (R C : Nat) (l : Bool × Nat) : Prop := if l.1 then l.2 < C else l.2 < R
theorem linesL_mem {R C : Nat} {l : Bool × Nat} : l ∈ linesL R C ↔ okL R C l := by
  unfold linesL okL
  rw [List.mem_append, List.mem_map, List.mem_map]
  constructor
  · rintro (⟨i, h, rfl⟩ | ⟨i, h, rfl⟩)
    · exact List.mem_range.mp h
    · exact List.mem_range.mp h
  · obtain ⟨c, i⟩ := l
    intro h
    cases c with
    | true => exact .inr ⟨i, List.mem_range.mpr h, rfl⟩
    | false => exact .inl ⟨i, List.mem_range.mpr h, rfl⟩
theorem lineV_bits {R C : Nat} {V : Vw} (h : VB R C V) {l : Bool × Nat} (ok : okL R C l) : Bits (lineV R C V l.1 l.2) := by
  obtain ⟨c, i⟩ := l
  intro x hx
  cases c with
  | true =>
    obtain ⟨r, hr, rfl⟩ := List.mem_map.mp (show x ∈ lnC R V i from hx)
    exact h r i (List.mem_range.mp hr) ok
  | false =>
    obtain ⟨r, hr, rfl⟩ := List.mem_map.mp (show x ∈ lnR C V i from hx)
    exact h i r ok (List.mem_range.mp hr)
section
variable {br bc : List (List Nat)} {R C : Nat}
theorem lineS_cases {b b' : Ns} {l : Bool × Nat} (h : lineS br bc R C b l = some b') : fit (lineR br bc l.1 l.2) (lineV R C b.1 l.1 l.2) ≠ [] ∧
    ((newsM (lineV R C b.1 l.1 l.2) (bestM (lineR br bc l.1 l.2) (lineV R C b.1 l.1 l.2)) = [] ∧ b' = b) ∨
     (newsM (lineV R C b.1 l.1 l.2) (bestM (lineR br bc l.1 l.2) (lineV R C b.1 l.1 l.2)) ≠ [] ∧
      b' = (putS b.1 ⟨l.1, l.2, newsM (lineV R C b.1 l.1 l.2) (bestM (lineR br bc l.1 l.2) (lineV R C b.1 l.1 l.2))⟩, b.2.1 ++ [⟨l.1, l.2, newsM (lineV R C b.1 l.1 l.2) (bestM (lineR br bc l.1 l.2) (lineV R C b.1 l.1 l.2))⟩], true))) := by
  unfold lineS at h
  split at h
  · cases h
  · rename_i hf
    refine ⟨hf, ?_⟩
    split at h
    · rename_i hn
      exact .inl ⟨hn, (Option.some.inj h).symm⟩
    · rename_i hn
      exact .inr ⟨hn, (Option.some.inj h).symm⟩
theorem pos_lt (col : Bool) {R C r c : Nat} (V : Vw) (hr : r < R) (hc : c < C) : pos col r c < (lineV R C V col (lin col r c)).length := by
  rw [lineV_len]
  cases col with
  | true => exact hr
  | false => exact hc
theorem lineS_cell {b b' : Ns} {l : Bool × Nat} (h : lineS br bc R C b l = some b') {r c : Nat} (hr : r < R) (hc : c < C) :
    b'.1 r c = if lin l.1 r c = l.2 then bestC (lineR br bc l.1 l.2) (lineV R C b.1 l.1 l.2) (pos l.1 r c) else b.1 r c := by
  obtain ⟨hf, ⟨hn, rfl⟩ | ⟨hn, rfl⟩⟩ := lineS_cases h
  · by_cases h1 : lin l.1 r c = l.2
    · rw [if_pos h1]
      have hp := pos_lt l.1 b'.1 hr hc
      rw [h1] at hp
      have e : (lineV R C b'.1 l.1 l.2)[pos l.1 r c]? = (bestM (lineR br bc l.1 l.2) (lineV R C b'.1 l.1 l.2))[pos l.1 r c]? := Classical.byContradiction fun z => by
        have := (newsM_mem _ _ (pos l.1 r c, ((bestM (lineR br bc l.1 l.2) (lineV R C b'.1 l.1 l.2))[pos l.1 r c]?).getD none)).mpr ⟨hp, z, rfl⟩
        rw [hn] at this; cases this
      rw [bestM_get? _ _ hp, ← h1, lineV_get hr hc] at e
      rw [← h1]
      exact Option.some.inj e
    · rw [if_neg h1]
  · show putS b.1 _ r c = _
    rw [putS_news (by rw [bestM_len]) hr hc]
    by_cases h1 : lin l.1 r c = l.2
    · rw [if_pos h1, if_pos h1]
      have hp := pos_lt l.1 b.1 hr hc
      rw [h1] at hp
      rw [bestM_get? _ _ hp]; rfl
    · rw [if_neg h1, if_neg h1]
theorem lineS_bits {b b' : Ns} {l : Bool × Nat} (h : lineS br bc R C b l = some b') (vb : VB R C b.1) : VB R C b'.1 := fun r c hr hc => by
  rw [lineS_cell h hr hc]
  by_cases h1 : lin l.1 r c = l.2
  · rw [if_pos h1]
    have hp := pos_lt l.1 b.1 hr hc
    rw [h1] at hp
    rcases bestC_spec _ _ (lineS_cases h).1 hp with ⟨g, _⟩ | ⟨g, _⟩ | ⟨g, _⟩ <;> rw [g] <;> simp
  · rw [if_neg h1]; exact vb r c hr hc
theorem lineS_keep {b b' : Ns} {l : Bool × Nat} (h : lineS br bc R C b l = some b') {r c : Nat} (hr : r < R) (hc : c < C) {x : Int} (hx : b.1 r c = some x) : b'.1 r c = some x := by
  rw [lineS_cell h hr hc]
  by_cases h1 : lin l.1 r c = l.2
  · rw [if_pos h1]
    have hp := pos_lt l.1 b.1 hr hc
    rw [h1] at hp
    have hg := lineV_get (V := b.1) (col := l.1) hr hc
    rw [h1, hx, List.getElem?_eq_getElem hp] at hg
    exact bestC_told _ _ (lineS_cases h).1 hp (Option.some.inj hg)
  · rw [if_neg h1]; exact hx
def cellsL (R C : Nat) : List (Nat × Nat) := (List.range R).flatMap fun r => (List.range C).map fun c => (r, c)
theorem cellsL_mem {R C : Nat} {p : Nat × Nat} : p ∈ cellsL R C ↔ p.1 < R ∧ p.2 < C := by
  unfold cellsL
  rw [List.mem_flatMap]
  constructor
  · rintro ⟨r, hr, h⟩
    obtain ⟨c, hc, rfl⟩ := List.mem_map.mp h
    exact ⟨List.mem_range.mp hr, List.mem_range.mp hc⟩
  · rintro ⟨h1, h2⟩
    exact ⟨p.1, List.mem_range.mpr h1, List.mem_map.mpr ⟨p.2, List.mem_range.mpr h2, rfl⟩⟩
theorem cellsL_len (R C : Nat) : (cellsL R C).length = R * C := by
  unfold cellsL
  rw [List.length_flatMap]
  simp only [List.length_map, List.length_range]
  rw [List.map_const', List.length_range, List.sum_replicate_nat]
def openN (R C : Nat) (V : Vw) : Nat := ((cellsL R C).filter fun p => V p.1 p.2 == none).length
theorem filter_le {α : Type} {p q : α → Bool} : ∀ (L : List α), (∀ x ∈ L, q x = true → p x = true) → (L.filter q).length ≤ (L.filter p).length
  | [], _ => Nat.le_refl _
  | x :: L, h => by
    have ih := filter_le L fun y hy => h y (List.mem_cons_of_mem _ hy)
    have hx := h x List.mem_cons_self
    rw [List.filter_cons, List.filter_cons]
    cases hq : q x <;> cases hp : p x
    · simpa using ih
    · simp; omega
    · rw [hq, hp] at hx; simp at hx
    · simpa using ih
theorem filter_lt {α : Type} {p q : α → Bool} : ∀ (L : List α), (∀ x ∈ L, q x = true → p x = true) → (∃ x ∈ L, p x = true ∧ q x = false) → (L.filter q).length < (L.filter p).length
  | [], _, ⟨x, hx, _⟩ => by cases hx
  | x :: L, h, ⟨y, hy, h1, h2⟩ => by
    have hx := h x List.mem_cons_self
    have le := filter_le L fun y hy => h y (List.mem_cons_of_mem _ hy)
    rw [List.filter_cons, List.filter_cons]
    rcases List.mem_cons.mp hy with rfl | hy
    · rw [h1, h2]
      simp; omega
    · have ih := filter_lt L (fun y hy => h y (List.mem_cons_of_mem _ hy)) ⟨y, hy, h1, h2⟩
      cases hq : q x <;> cases hp : p x
      · simpa using ih
      · simp; omega
      · rw [hq, hp] at hx; simp at hx
      · simpa using ih
theorem lineS_mono {b b' : Ns} {l : Bool × Nat} (h : lineS br bc R C b l = some b') : ∀ p ∈ cellsL R C, (b'.1 p.1 p.2 == none) = true → (b.1 p.1 p.2 == none) = true := fun p hp hq => by
  obtain ⟨h1, h2⟩ := cellsL_mem.mp hp
  cases q : b.1 p.1 p.2 with
  | none => rfl
  | some x => rw [lineS_keep h h1 h2 q] at hq; cases hq
theorem lineS_lt {b b' : Ns} {l : Bool × Nat} (h : lineS br bc R C b l = some b') (ok : okL R C l) (hn : newsM (lineV R C b.1 l.1 l.2) (bestM (lineR br bc l.1 l.2) (lineV R C b.1 l.1 l.2)) ≠ []) : openN R C b'.1 < openN R C b.1 := by
  have hf := (lineS_cases h).1
  refine filter_lt _ (lineS_mono h) ?_
  obtain ⟨p, hp⟩ := List.exists_mem_of_ne_nil _ hn
  obtain ⟨h1, h2, h3⟩ := (newsM_mem _ _ p).mp hp
  have h1' := h1
  rw [lineV_len] at h1
  obtain ⟨r, c, hr, hc, hl, hpo⟩ : ∃ r c, r < R ∧ c < C ∧ lin l.1 r c = l.2 ∧ pos l.1 r c = p.1 := by
    obtain ⟨col, i⟩ := l
    cases col with
    | true => exact ⟨p.1, i, h1, ok, rfl, rfl⟩
    | false => exact ⟨i, p.1, ok, h1, rfl, rfl⟩
  refine ⟨(r, c), cellsL_mem.mpr ⟨hr, hc⟩, ?_⟩
  have hcell := lineS_cell h hr hc
  rw [if_pos hl, hpo] at hcell
  have hold := lineV_get (V := b.1) (col := l.1) hr hc
  rw [hl, hpo] at hold
  rw [hold, bestM_get? _ _ h1', ← hcell] at h2
  have hs := bestC_spec _ _ hf h1'
  rw [← hcell, Option.some.inj ((List.getElem?_eq_getElem h1').symm.trans hold)] at hs
  rcases hs with ⟨g1, g2, _⟩ | ⟨g1, _, _, g2⟩ | ⟨g1, _, _, g2⟩
  · rw [g1, g2] at h2; exact absurd rfl h2
  · rcases g2 with g2 | g2
    · show (b.1 r c == none) = true ∧ (b'.1 r c == none) = false
      rw [g1, g2]; exact ⟨rfl, rfl⟩
    · rw [g1, g2] at h2; exact absurd rfl h2
  · rcases g2 with g2 | g2
    · show (b.1 r c == none) = true ∧ (b'.1 r c == none) = false
      rw [g1, g2]; exact ⟨rfl, rfl⟩
    · rw [g1, g2] at h2; exact absurd rfl h2
theorem lineS_open {b b' : Ns} {l : Bool × Nat} (h : lineS br bc R C b l = some b') (ok : okL R C l) : openN R C b'.1 ≤ openN R C b.1 ∧ (b'.2.2 = true → b.2.2 = true ∨ openN R C b'.1 < openN R C b.1) := by
  refine ⟨filter_le _ (lineS_mono h), fun hb => ?_⟩
  obtain ⟨hf, ⟨hn, rfl⟩ | ⟨hn, e⟩⟩ := lineS_cases h
  · exact .inl hb
  · exact .inr (lineS_lt h ok hn)
theorem lineS_size {b b' : Ns} {l : Bool × Nat} (h : lineS br bc R C b l = some b') (ok : okL R C l) {N : Nat} (hN : b.2.1.length + openN R C b.1 ≤ N) : b'.2.1.length + openN R C b'.1 ≤ N := by
  obtain ⟨hf, ⟨hn, rfl⟩ | ⟨hn, e⟩⟩ := lineS_cases h
  · exact hN
  · have h1 := lineS_lt h ok hn
    have h2 : b'.2.1.length = b.2.1.length + 1 := by rw [e]; simp
    omega
/-- what every line keeps -/
theorem fold_inv (I : Vw → List Stp → Prop) : ∀ (L : List (Bool × Nat)) (b b' : Ns), (∀ l ∈ L, ∀ b b', lineS br bc R C b l = some b' → I b.1 b.2.1 → I b'.1 b'.2.1) → L.foldlM (lineS br bc R C) b = some b' → I b.1 b.2.1 → I b'.1 b'.2.1
  | [], b, b', _, h, hi => by
    have : b = b' := Option.some.inj h
    subst this
    exact hi
  | l :: L, b, b', st, h, hi => by
    rw [List.foldlM_cons] at h
    obtain ⟨b1, h1, h2⟩ := Option.bind_eq_some_iff.mp h
    exact fold_inv I L b1 b' (fun l hl => st l (List.mem_cons_of_mem _ hl)) h2 (st l List.mem_cons_self b b1 h1 hi)
theorem fold_open : ∀ (L : List (Bool × Nat)) (b b' : Ns), (∀ l ∈ L, okL R C l) → L.foldlM (lineS br bc R C) b = some b' → openN R C b'.1 ≤ openN R C b.1 ∧ (b'.2.2 = true → b.2.2 = true ∨ openN R C b'.1 < openN R C b.1)
  | [], b, b', _, h => by
    have : b = b' := Option.some.inj h
    subst this
    exact ⟨Nat.le_refl _, fun h => .inl h⟩
  | l :: L, b, b', ok, h => by
    rw [List.foldlM_cons] at h
    obtain ⟨b1, h1, h2⟩ := Option.bind_eq_some_iff.mp h
    obtain ⟨a1, a2⟩ := lineS_open h1 (ok l List.mem_cons_self)
    obtain ⟨c1, c2⟩ := fold_open L b1 b' (fun l hl => ok l (List.mem_cons_of_mem _ hl)) h2
    refine ⟨by omega, fun hb => ?_⟩
    rcases c2 hb with z | z
    · rcases a2 z with y | y
      · exact .inl y
      · exact .inr (by omega)
    · exact .inr (by omega)
theorem fold_flag : ∀ (L : List (Bool × Nat)) (b b' : Ns), L.foldlM (lineS br bc R C) b = some b' → b'.2.2 = false → b = b' ∧ ∀ l ∈ L, lineS br bc R C b l = some b ∧ newsM (lineV R C b.1 l.1 l.2) (bestM (lineR br bc l.1 l.2) (lineV R C b.1 l.1 l.2)) = []
  | [], b, b', h, _ => ⟨Option.some.inj h, fun l hl => by cases hl⟩
  | l :: L, b, b', h, hf => by
    rw [List.foldlM_cons] at h
    obtain ⟨b1, h1, h2⟩ := Option.bind_eq_some_iff.mp h
    obtain ⟨rfl, h3⟩ := fold_flag L b1 b' h2 hf
    obtain ⟨q, ⟨hn, rfl⟩ | ⟨hn, e⟩⟩ := lineS_cases h1
    · refine ⟨rfl, fun l' hl => ?_⟩
      rcases List.mem_cons.mp hl with rfl | hl
      · exact ⟨h1, hn⟩
      · exact h3 l' hl
    · rw [e] at hf; cases hf
theorem run_inv (I : Vw → List Stp → Prop) (st : ∀ l, okL R C l → ∀ b b', lineS br bc R C b l = some b' → I b.1 b.2.1 → I b'.1 b'.2.1) : ∀ (n : Nat) (b : Ns) (W : Vw) (s : List Stp), runS br bc R C n b = .ok (W, s) → I b.1 b.2.1 → I W s
  | 0, _, _, _, h, _ => by cases h
  | n + 1, b, W, s, h, hi => by
    unfold runS at h
    split at h
    · cases hr : roundS br bc R C b with
      | none => rw [hr] at h; cases h
      | some b' =>
        rw [hr] at h
        exact run_inv I st n b' W s h (fold_inv I _ _ b' (fun l hl => st l (linesL_mem.mp hl)) hr hi)
    · cases h
      exact hi
theorem run_total : ∀ (n : Nat) (b : Ns), openN R C b.1 + 2 ≤ n ∨ (b.2.2 = false ∧ 0 < n) → runS br bc R C n b ≠ .no
  | 0, b, h => by omega
  | n + 1, b, h => by
    unfold runS
    split
    · rename_i hf
      have h1 : openN R C b.1 + 2 ≤ n + 1 := h.elim id fun z => by rw [hf] at z; cases z.1
      cases hr : roundS br bc R C b with
      | none => intro z; cases z
      | some b' =>
        have := fold_open (linesL R C) _ b' (fun l hl => linesL_mem.mp hl) hr
        refine run_total n b' ?_
        cases q : b'.2.2 with
        | false => exact .inr ⟨rfl, by omega⟩
        | true =>
          rcases this.2 q with z | z
          · cases z
          · exact .inl (by
              have z : openN R C b'.1 < openN R C b.1 := z
              omega)
    · intro z; cases z
theorem open_le (R C : Nat) (V : Vw) : openN R C V ≤ R * C := by
  unfold openN
  rw [← cellsL_len R C]
  exact List.length_filter_le _ _
/-- the end: no line tells more -/
theorem run_end : ∀ (n : Nat) (b : Ns) (W : Vw) (s : List Stp), runS br bc R C n b = .ok (W, s) → b.2.2 = true → ∀ l, okL R C l → fit (lineR br bc l.1 l.2) (lineV R C W l.1 l.2) ≠ [] ∧ newsM (lineV R C W l.1 l.2) (bestM (lineR br bc l.1 l.2) (lineV R C W l.1 l.2)) = []
  | 0, _, _, _, h, _ => by cases h
  | n + 1, b, W, s, h, hf => by
    unfold runS at h
    rw [if_pos hf] at h
    cases hr : roundS br bc R C b with
    | none => rw [hr] at h; cases h
    | some b' =>
      rw [hr] at h
      cases q : b'.2.2 with
      | true => exact run_end n b' W s h q
      | false =>
        have e : W = b'.1 := by
          cases n with
          | zero => cases h
          | succ n =>
            simp only [runS, q] at h
            cases h
            rfl
        subst e
        obtain ⟨e1, h2⟩ := fold_flag _ _ _ hr q
        intro l hl
        obtain ⟨h3, h4⟩ := h2 l (linesL_mem.mpr hl)
        have e2 : b.1 = b'.1 := by rw [← e1]
        have h5 := (lineS_cases h3).1
        rw [← e2]
        exact ⟨h5, h4⟩
/-- a view in which no line tells more is its own narrowed view -/
theorem run_fix {W : Vw} (h : ∀ l, okL R C l → fit (lineR br bc l.1 l.2) (lineV R C W l.1 l.2) ≠ [] ∧ newsM (lineV R C W l.1 l.2) (bestM (lineR br bc l.1 l.2) (lineV R C W l.1 l.2)) = []) (n : Nat) : runS br bc R C (n + 2) (W, [], true) = .ok (W, []) := by
  have hr : roundS br bc R C (W, [], true) = some (W, [], false) := by
    have : ∀ L : List (Bool × Nat), (∀ l ∈ L, okL R C l) → L.foldlM (lineS br bc R C) (W, [], false) = some (W, [], false) := by
      intro L
      induction L with
      | nil => intro _; rfl
      | cons l L ih =>
        intro hL
        obtain ⟨h1, h2⟩ := h l (hL l List.mem_cons_self)
        have e : lineS br bc R C (W, [], false) l = some (W, [], false) := by
          unfold lineS
          rw [if_neg h1, if_pos h2]
        rw [List.foldlM_cons, e]
        exact ih fun l hl => hL l (List.mem_cons_of_mem _ hl)
    exact this _ fun l hl => linesL_mem.mp hl
  show (if true then (match roundS br bc R C (W, [], true) with | none => Rs.er "NoLaying" | some b' => runS br bc R C (n + 1) b') else .ok (W, [])) = _
  rw [hr]
  rfl
end
end RP
namespace RP
open PySem L2
@[simp] theorem datas_OVs (L : List Sg) : datas (L.map fun s => Tr.ol (s.map fun c => .d (cD c))) = some (L.map fun s => .list (s.map cD)) := datas_mapg (fun s => by simp) L
@[simp] theorem cleans_OVs (L : List Sg) : cleans (L.map fun s => Tr.ol (s.map fun c => .d (cD c))) = true := cleans_mapg (fun s => by simp) L
@[simp] theorem noVs_OVs (L : List Sg) : noVs (L.map fun s => Tr.ol (s.map fun c => .d (cD c))) = true := noVs_mapg (fun s => by simp) L
theorem frz_OVs (L : List Sg) : frz (.ol (L.map fun s => Tr.ol (s.map fun c => .d (cD c)))) = .d (.list (L.map fun s => .list (s.map cD))) := by
  unfold frz
  simp
@[simp] theorem shk_LVs (n : Nat) (L : List Sg) : shk (n + 2) (.list (L.map fun s => .list (s.map cD))) = true := by
  show (L.map fun s => PyData.list (s.map cD)).all (shk (n + 1)) = true
  rw [List.all_map, List.all_eq_true]
  intro x _
  exact shk_SL n x
@[simp] theorem pln_LVs (L : List Sg) : pln (.list (L.map fun s => .list (s.map cD))) = true := plns_all _ L fun s _ => pln_SL s
abbrev BD (br bc : List (List Nat)) : PyData := .tuple [.tuple (br.map fun rs => RU rs), .tuple (bc.map fun rs => RU rs)]
theorem RUs_of (p : List (List Int)) : (p.map runsM).map (fun r => PyData.tuple (r.map .int)) = (p.map (rn 0)).map fun rs => RU rs := by
  rw [List.map_map, List.map_map]
  apply List.map_congr_left
  intro r _
  exact RU_rn r
theorem bd_BD (p : List (List Int)) (C : Nat) : bdD (boardR p) (boardC p C) = BD (p.map (rn 0)) ((List.range C).map fun k => rn 0 (colM p k)) := by
  have h1 : TL (boardR p) = .tuple ((p.map (rn 0)).map fun rs => RU rs) := congrArg PyData.tuple (RUs_of p)
  have h2 : TL (boardC p C) = .tuple (((List.range C).map fun k => rn 0 (colM p k)).map fun rs => RU rs) := by
    have := RUs_of ((List.range C).map fun k => colM p k)
    rw [List.map_map, List.map_map (f := rn 0)] at this
    exact congrArg PyData.tuple (by simpa [boardC, Function.comp_def] using this)
  show PyData.tuple [TL (boardR p), TL (boardC p C)] = _
  rw [h1, h2]
@[simp] theorem lfs_RUs (b : List (List Nat)) : lfs (b.map fun rs => RU rs) = true := lfs_all (fun rs : List Nat => RU rs) (fun rs => lfs_RU rs) b
theorem gNe_c2 (a b : Option Int) : gNe [.d (cD a), .d (cD b)] = some (.d (.bool (!decide (a = b)))) :=
  gNe_data (x := cD a) (y := cD b) rfl rfl (shk_cD 40 a) (shk_cD 40 b) (pln_cD a) (pln_cD b) (by rw [decide_eq_true_eq, cD_inj])
theorem newsM_eq (old new : Sg) (h : new.length = old.length) : newsM old new = ((List.range old.length).filter fun i => !decide ((old[i]?).getD none = (new[i]?).getD none)).map fun i => (i, (new[i]?).getD none) := by
  unfold newsM
  congr 1
  apply List.filter_congr
  intro i hi
  have hi := List.mem_range.mp hi
  rw [List.getElem?_eq_getElem hi, List.getElem?_eq_getElem (show i < new.length by omega)]
  simp only [Option.getD_some, Option.some_beq_some]
  congr 1
  rw [Bool.eq_iff_iff, beq_iff_eq, decide_eq_true_eq]
/-- the cells of some news, put in -/
theorem put_loop {R C : Nat} {body : DenS} (col : Bool) (i : Nat) (a0 a1 a3 a4 a5 a6 a9 : Option Tr) : ∀ (told : List (Nat × Option Int)) (V : Vw) (x7 x8 : Option Tr),
    (∀ V, ∀ p ∈ told, body [a0, a1, some (OV R C V), a3, a4, a5, a6, some (.d (.int (p.1 : Int))), some (.d (cD p.2)), a9] = .nx [a0, a1, some (OV R C (put1 col i V p)), a3, a4, a5, a6, some (.d (.int (p.1 : Int))), some (.d (cD p.2)), a9]) →
    ∃ y7 y8, forL (tgP 7 8) body (told.map fun p => .d (pD p)) [a0, a1, some (OV R C V), a3, a4, a5, a6, x7, x8, a9] = .nx [a0, a1, some (OV R C (told.foldl (put1 col i) V)), a3, a4, a5, a6, y7, y8, a9]
  | [], V, x7, x8, _ => ⟨x7, x8, rfl⟩
  | p :: told, V, x7, x8, h => by
    obtain ⟨y7, y8, e⟩ := put_loop col i a0 a1 a3 a4 a5 a6 a9 told (put1 col i V p) (some (.d (.int (p.1 : Int)))) (some (.d (cD p.2))) fun V q hq => h V q (List.mem_cons_of_mem _ hq)
    refine ⟨y7, y8, ?_⟩
    rw [List.map_cons, List.foldl_cons, ← e]
    show loopR (body [a0, a1, some (OV R C V), a3, a4, a5, a6, some (.d (.int (p.1 : Int))), some (.d (cD p.2)), a9]) _ = _
    rw [h V p List.mem_cons_self, loopR_nx]
end RP
namespace RP
open PySem L2
def lineP (R C : Nat) (P : Nat → Nat → Int) (col : Bool) (i : Nat) : List Int := if col then (List.range R).map fun r => P r i else (List.range C).map fun c => P i c
def Tru (R C : Nat) (P : Nat → Nat → Int) (V : Vw) : Prop := ∀ r c, r < R → c < C → ∀ x, V r c = some x → x = P r c
theorem lineP_get {R C : Nat} {P : Nat → Nat → Int} {col : Bool} {r c : Nat} (hr : r < R) (hc : c < C) : (lineP R C P col (lin col r c))[pos col r c]? = some (P r c) := by
  cases col with
  | true =>
    show ((List.range R).map fun r => P r c)[r]? = _
    rw [List.getElem?_map, List.getElem?_range hr]; rfl
  | false =>
    show ((List.range C).map fun c => P r c)[c]? = _
    rw [List.getElem?_map, List.getElem?_range hc]; rfl
theorem lineP_len (R C : Nat) (P : Nat → Nat → Int) (V : Vw) (col : Bool) (i : Nat) : (lineP R C P col i).length = (lineV R C V col i).length := by
  rw [lineV_len]
  cases col <;> simp [lineP]
-- the places of a line
theorem line_at {R C : Nat} {l : Bool × Nat} (ok : okL R C l) (V : Vw) {j : Nat} (hj : j < (lineV R C V l.1 l.2).length) : ∃ r c, r < R ∧ c < C ∧ lin l.1 r c = l.2 ∧ pos l.1 r c = j := by
  rw [lineV_len] at hj
  obtain ⟨col, i⟩ := l
  cases col with
  | true => exact ⟨j, i, hj, ok, rfl, rfl⟩
  | false => exact ⟨i, j, ok, hj, rfl, rfl⟩
theorem tru_fit {R C : Nat} {P : Nat → Nat → Int} {V : Vw} (hP : ∀ r c, r < R → c < C → P r c = 0 ∨ P r c = 1) (hT : Tru R C P V) {l : Bool × Nat} (ok : okL R C l) {rs : List Nat} (hr : rn 0 (lineP R C P l.1 l.2) = rs) : lineP R C P l.1 l.2 ∈ fit rs (lineV R C V l.1 l.2) := by
  rw [fit_mem]
  have hl := lineP_len R C P V l.1 l.2
  refine ⟨hl, fun x hx => ?_, (agr_iff _ _ hl).mpr fun j hj => ?_, hr⟩
  · obtain ⟨j, hj⟩ := List.mem_iff_getElem?.mp hx
    have hj' : j < (lineV R C V l.1 l.2).length := by
      rw [← hl]; exact (List.getElem?_eq_some_iff.mp hj).1
    obtain ⟨r, c, h1, h2, h3, h4⟩ := line_at ok V hj'
    have := lineP_get (P := P) (col := l.1) h1 h2
    rw [h3, h4, hj] at this
    rw [Option.some.inj this]
    exact hP r c h1 h2
  · obtain ⟨r, c, h1, h2, h3, h4⟩ := line_at ok V hj
    have a := lineV_get (V := V) (col := l.1) h1 h2
    have b := lineP_get (P := P) (col := l.1) h1 h2
    rw [h3, h4] at a b
    rw [a, b]
    cases q : V r c with
    | none => exact .inl rfl
    | some x => exact .inr (by rw [hT r c h1 h2 x q])
theorem tru_step {br bc : List (List Nat)} {R C : Nat} {P : Nat → Nat → Int} (hP : ∀ r c, r < R → c < C → P r c = 0 ∨ P r c = 1) (hrun : ∀ l, okL R C l → rn 0 (lineP R C P l.1 l.2) = lineR br bc l.1 l.2) {b b' : Ns} {l : Bool × Nat} (ok : okL R C l) (h : lineS br bc R C b l = some b') (hT : Tru R C P b.1) : Tru R C P b'.1 := fun r c hr hc x hx => by
  rw [lineS_cell h hr hc] at hx
  by_cases h1 : lin l.1 r c = l.2
  · rw [if_pos h1] at hx
    have hp := pos_lt l.1 b.1 hr hc
    rw [h1] at hp
    have hm := tru_fit hP hT ok (hrun l ok)
    have := (bestC_bit _ _ (lineS_cases h).1 hp hx).2 _ hm
    rw [← h1, lineP_get hr hc] at this
    exact (Option.some.inj this).symm
  · rw [if_neg h1] at hx
    exact hT r c hr hc x hx
section
variable {br bc : List (List Nat)} {R C : Nat}
theorem fold_ok (I : Vw → Prop) (hI : ∀ V, I V → ∀ l, okL R C l → fit (lineR br bc l.1 l.2) (lineV R C V l.1 l.2) ≠ []) (st : ∀ l, okL R C l → ∀ b b', lineS br bc R C b l = some b' → I b.1 → I b'.1) : ∀ (L : List (Bool × Nat)) (b : Ns), (∀ l ∈ L, okL R C l) → I b.1 → ∃ b', L.foldlM (lineS br bc R C) b = some b' ∧ I b'.1
  | [], b, _, h => ⟨b, rfl, h⟩
  | l :: L, b, ok, h => by
    have ok1 := ok l List.mem_cons_self
    have hf := hI b.1 h l ok1
    obtain ⟨b1, h1⟩ : ∃ b1, lineS br bc R C b l = some b1 := by
      unfold lineS
      rw [if_neg hf]
      split
      · exact ⟨_, rfl⟩
      · exact ⟨_, rfl⟩
    obtain ⟨b', h2, h3⟩ := fold_ok I hI st L b1 (fun l hl => ok l (List.mem_cons_of_mem _ hl)) (st l ok1 b b1 h1 h)
    exact ⟨b', by rw [List.foldlM_cons, h1]; exact h2, h3⟩
theorem run_ok (I : Vw → Prop) (hI : ∀ V, I V → ∀ l, okL R C l → fit (lineR br bc l.1 l.2) (lineV R C V l.1 l.2) ≠ []) (st : ∀ l, okL R C l → ∀ b b', lineS br bc R C b l = some b' → I b.1 → I b'.1) : ∀ (n : Nat) (b : Ns), I b.1 → ∀ c, runS br bc R C n b ≠ .er c
  | 0, b, _, c => by intro z; cases z
  | n + 1, b, h, c => by
    unfold runS
    split
    · obtain ⟨b', h1, h2⟩ := fold_ok I hI st (linesL R C) (b.1, b.2.1, false) (fun l hl => linesL_mem.mp hl) h
      rw [show roundS br bc R C b = some b' from h1]
      exact run_ok I hI st n b' h2 c
    · intro z; cases z
end
-- a list of rows as a view
def vwL (L : List Sg) : Vw := fun r c => (((L[r]?).getD [])[c]?).getD none
theorem vT_vwL {R C : Nat} {L : List Sg} (h : L.length = R) (hr : ∀ s ∈ L, s.length = C) : vT R C (vwL L) = L := by
  apply List.ext_getElem?
  intro i
  by_cases hi : i < R
  · have hi' : i < L.length := by omega
    rw [vT_get hi, List.getElem?_eq_getElem hi']
    congr 1
    have hl := hr _ (List.getElem_mem hi')
    apply List.ext_getElem?
    intro j
    by_cases hj : j < C
    · rw [lnR_get hj]
      unfold vwL
      rw [List.getElem?_eq_getElem hi', Option.getD_some, List.getElem?_eq_getElem (show j < L[i].length by omega)]
      rfl
    · rw [List.getElem?_eq_none (by rw [lnR_len]; omega), List.getElem?_eq_none (by omega)]
  · rw [List.getElem?_eq_none (by rw [vT_len]; omega), List.getElem?_eq_none (by omega)]
-- a picture as a function
def pcF (p : List (List Int)) : Nat → Nat → Int := fun r c => (((p[r]?).getD [])[c]?).getD 0
theorem pcF_row {R C : Nat} {p : List (List Int)} (h : Pic R C p) {r : Nat} (hr : r < R) : lineP R C (pcF p) false r = p[r]'(by rw [h.len]; exact hr) := by
  have hr' : r < p.length := by rw [h.len]; exact hr
  have hl := h.row _ (List.getElem_mem hr')
  show (List.range C).map (fun c => pcF p r c) = _
  apply List.ext_getElem?
  intro j
  by_cases hj : j < C
  · rw [List.getElem?_map, List.getElem?_range hj, List.getElem?_eq_getElem (show j < p[r].length by omega)]
    show some (pcF p r j) = _
    unfold pcF
    rw [List.getElem?_eq_getElem hr', Option.getD_some, List.getElem?_eq_getElem (show j < p[r].length by omega)]
    rfl
  · rw [List.getElem?_eq_none (by simp; omega), List.getElem?_eq_none (by omega)]
theorem pcF_col {R C : Nat} {p : List (List Int)} (h : Pic R C p) (c : Nat) : lineP R C (pcF p) true c = colM p c := by
  show (List.range R).map (fun r => pcF p r c) = p.map fun r => (r[c]?).getD 0
  apply List.ext_getElem?
  intro j
  rw [List.getElem?_map, List.getElem?_map]
  by_cases hj : j < R
  · have hj' : j < p.length := by rw [h.len]; exact hj
    rw [List.getElem?_range hj, List.getElem?_eq_getElem hj']
    show some (pcF p j c) = some _
    unfold pcF
    rw [List.getElem?_eq_getElem hj', Option.getD_some]
  · have hj' : ¬ j < p.length := by rw [h.len]; exact hj
    rw [List.getElem?_eq_none (by simp; omega), List.getElem?_eq_none (by omega)]
    rfl
theorem pcF_bit {R C : Nat} {p : List (List Int)} (h : Pic R C p) (r c : Nat) (hr : r < R) (hc : c < C) : pcF p r c = 0 ∨ pcF p r c = 1 := by
  have hr' : r < p.length := by rw [h.len]; exact hr
  have hl := h.row _ (List.getElem_mem hr')
  unfold pcF
  rw [List.getElem?_eq_getElem hr', Option.getD_some, List.getElem?_eq_getElem (show c < p[r].length by omega)]
  exact h.bit _ (List.getElem_mem hr') _ (List.getElem_mem _)
-- the runs of a picture's board
def brP (p : List (List Int)) : List (List Nat) := p.map (rn 0)
def bcP (p : List (List Int)) (C : Nat) : List (List Nat) := (List.range C).map fun k => rn 0 (colM p k)
theorem runs_P {R C : Nat} {p : List (List Int)} (h : Pic R C p) (l : Bool × Nat) (ok : okL R C l) : rn 0 (lineP R C (pcF p) l.1 l.2) = lineR (brP p) (bcP p C) l.1 l.2 := by
  obtain ⟨col, i⟩ := l
  cases col with
  | true =>
    show rn 0 (lineP R C (pcF p) true i) = ((bcP p C)[i]?).getD []
    have ok : i < C := ok
    rw [pcF_col h]
    unfold bcP
    rw [List.getElem?_map, List.getElem?_range ok]; rfl
  | false =>
    show rn 0 (lineP R C (pcF p) false i) = ((brP p)[i]?).getD []
    have ok : i < R := ok
    rw [pcF_row h ok]
    unfold brP
    rw [List.getElem?_map, List.getElem?_eq_getElem (by rw [h.len]; exact ok)]; rfl
theorem rn_len (cs : List Int) : (rn 0 cs).length ≤ cs.length + 1 := by
  have h1 := runsM_len cs
  rw [runsM_rn, List.length_map] at h1
  exact h1
theorem brP_pos {R C : Nat} {p : List (List Int)} (h : Pic R C p) (hC : C ≤ 90) : ∀ rs ∈ brP p, (∀ r ∈ rs, 0 < r) ∧ rs.length ≤ 100 := fun rs hrs => by
  obtain ⟨r, hr, rfl⟩ := List.mem_map.mp hrs
  have := rn_len r
  have := h.row r hr
  exact ⟨rn_pos r 0, by omega⟩
theorem bcP_pos {R C : Nat} {p : List (List Int)} (h : Pic R C p) (hR : R ≤ 90) : ∀ rs ∈ bcP p C, (∀ r ∈ rs, 0 < r) ∧ rs.length ≤ 100 := fun rs hrs => by
  obtain ⟨k, hk, rfl⟩ := List.mem_map.mp hrs
  have h1 := rn_len (colM p k)
  have h2 : (colM p k).length = R := by simp [colM, h.len]
  exact ⟨rn_pos _ 0, by omega⟩
end RP
namespace RP
open PySem L2
/-- the cells of some news, put in, in any frame -/
theorem puts_gen {T : Tg} {body : DenS} (col : Bool) (i : Nat) (E : Vw → Option Tr → Option Tr → En) (hT : ∀ V x y p, T (.d (pD p)) (E V x y) = some (E V (some (.d (.int (p.1 : Int)))) (some (.d (cD p.2))))) : ∀ (told : List (Nat × Option Int)) (V : Vw) (x y : Option Tr),
    (∀ V, ∀ p ∈ told, body (E V (some (.d (.int (p.1 : Int)))) (some (.d (cD p.2)))) = .nx (E (put1 col i V p) (some (.d (.int (p.1 : Int)))) (some (.d (cD p.2))))) →
    ∃ x' y', forL T body (told.map fun p => .d (pD p)) (E V x y) = .nx (E (told.foldl (put1 col i) V) x' y')
  | [], V, x, y, _ => ⟨x, y, rfl⟩
  | p :: told, V, x, y, h => by
    obtain ⟨x', y', e⟩ := puts_gen col i E hT told (put1 col i V p) (some (.d (.int (p.1 : Int)))) (some (.d (cD p.2))) fun V q hq => h V q (List.mem_cons_of_mem _ hq)
    refine ⟨x', y', ?_⟩
    rw [List.map_cons, List.foldl_cons, ← e]
    show (match T (.d (pD p)) (E V x y) with | none => SR.no | some en1 => loopR (body en1) (forL T body (told.map fun p => .d (pD p)))) = _
    rw [hT]
    show loopR (body _) _ = _
    rw [h V p List.mem_cons_self, loopR_nx]
def okS (R C : Nat) (x : Stp) : Prop := okL R C (x.col, x.at_) ∧ (∀ p ∈ x.told, p.1 < if x.col then R else C) ∧ (∀ p ∈ x.told, p.2 ≠ none) ∧ x.told.length ≤ R + C
/-- what is told anew is told -/
theorem news_some (rs : List Nat) (s : Sg) (ne : fit rs s ≠ []) : ∀ p ∈ newsM s (bestM rs s), p.2 ≠ none := fun p hp => by
  obtain ⟨h1, h2, h3⟩ := (newsM_mem _ _ p).mp hp
  rw [bestM_get? rs s h1] at h2 h3
  rw [h3, Option.getD_some]
  intro z
  rcases bestC_spec rs s ne h1 with ⟨g1, g2, _⟩ | ⟨g1, _⟩ | ⟨g1, _⟩
  · rw [List.getElem?_eq_getElem h1, g1, g2] at h2
    exact h2 rfl
  · rw [g1] at z; cases z
  · rw [g1] at z; cases z
theorem okS_step {br bc : List (List Nat)} {R C : Nat} (l : Bool × Nat) (ok : okL R C l) (b b' : Ns) (h : lineS br bc R C b l = some b') (hi : ∀ x ∈ b.2.1, okS R C x) : ∀ x ∈ b'.2.1, okS R C x := by
  obtain ⟨hf, ⟨hn, rfl⟩ | ⟨hn, e⟩⟩ := lineS_cases h
  · exact hi
  · rw [e]
    intro x hx
    rcases List.mem_append.mp hx with z | z
    · exact hi x z
    · rw [List.mem_singleton.mp z]
      refine ⟨ok, fun p hp => ?_, news_some _ _ hf, ?_⟩
      · have := ((newsM_mem _ _ p).mp hp).1
        rw [lineV_len] at this
        exact this
      · have h1 : ∀ old new : Sg, (newsM old new).length ≤ old.length := fun old new => by
          unfold newsM
          rw [List.length_map]
          exact Nat.le_trans (List.length_filter_le _ _) (by simp)
        have h2 := h1 (lineV R C b.1 l.1 l.2) (bestM (lineR br bc l.1 l.2) (lineV R C b.1 l.1 l.2))
        rw [lineV_len] at h2
        refine Nat.le_trans h2 ?_
        split <;> omega
theorem run_er_c {br bc : List (List Nat)} {R C : Nat} : ∀ (n : Nat) (b : Ns) (c : Str), runS br bc R C n b = .er c → c = "NoLaying"
  | 0, _, _, h => by cases h
  | n + 1, b, c, h => by
    unfold runS at h
    split at h
    · cases hr : roundS br bc R C b with
      | none =>
        rw [hr] at h
        cases h; rfl
      | some b' =>
        rw [hr] at h
        exact run_er_c n b' c h
    · cases h
theorem run_size {br bc : List (List Nat)} {R C : Nat} (n : Nat) (V W : Vw) (st : List Stp) (h : runS br bc R C n (V, [], true) = .ok (W, st)) : st.length ≤ R * C := by
  have := run_inv (br := br) (bc := bc) (R := R) (C := C) (fun W st => st.length + openN R C W ≤ R * C) (fun l ok b b' h hi => lineS_size h ok hi) n _ W st h (by
    have := open_le R C V
    show 0 + openN R C V ≤ R * C
    omega)
  omega
@[simp] theorem pln_pD (p : Nat × Option Int) : pln (pD p) = true := by
  obtain ⟨i, c⟩ := p
  cases c <;> rfl
@[simp] theorem mkV_pD (p : Nat × Option Int) : mkV (pD p) = .d (pD p) := by
  obtain ⟨i, c⟩ := p
  cases c <;> rfl
theorem pln_pDs (L : List (Nat × Option Int)) : pln (.list (L.map pD)) = true := plns_all pD L fun p _ => pln_pD p
theorem shk_pDs (n : Nat) (L : List (Nat × Option Int)) : shk (n + 3) (.list (L.map pD)) = true := by
  show (L.map pD).all (shk (n + 2)) = true
  rw [List.all_map, List.all_eq_true]
  intro p _
  obtain ⟨i, c⟩ := p
  cases c <;> rfl
@[simp] theorem pln_stD (x : Stp) : pln (stD x) = true := by
  have h : pln (.list (x.told.map pD)) = true := plns_all pD x.told fun p _ => pln_pD p
  have h2 : pln (sdD x.col) = true := by cases x.col <;> rfl
  show (pln (sdD x.col) && (pln (.int (x.at_ : Int)) && (pln (.list (x.told.map pD)) && true))) = true
  rw [h, h2]; rfl
@[simp] theorem shk_stD (n : Nat) (x : Stp) : shk (n + 4) (stD x) = true := by
  have h : shk (n + 3) (.list (x.told.map pD)) = true := by
    show (x.told.map pD).all (shk (n + 2)) = true
    rw [List.all_map, List.all_eq_true]
    intro p _
    obtain ⟨i, c⟩ := p
    cases c <;> rfl
  have h2 : shk (n + 3) (sdD x.col) = true := by
    cases x.col
    · show PyData.strOk "row" = true
      decide +kernel
    · show PyData.strOk "column" = true
      decide +kernel
  show [sdD x.col, .int (x.at_ : Int), .list (x.told.map pD)].all (shk (n + 3)) = true
  show (shk (n + 3) (sdD x.col) && (shk (n + 3) (.int (x.at_ : Int)) && (shk (n + 3) (.list (x.told.map pD)) && true))) = true
  rw [h, h2]; rfl
theorem mkE_stD (x : Stp) : mkE (stD x) = .e (stD x) := by
  obtain ⟨col, i, told⟩ := x
  cases col <;> rfl
theorem mkV_stD (x : Stp) : mkV (stD x) = .v (stD x) := by
  obtain ⟨col, i, told⟩ := x
  cases col <;> rfl
@[simp] theorem mkE_pD (p : Nat × Option Int) : mkE (pD p) = .d (pD p) := by
  obtain ⟨i, c⟩ := p
  cases c <;> rfl
theorem zipT_self {α : Type} (f g : α → Tr) : ∀ xs : List α, zipT (xs.map f) (xs.map g) = xs.map fun x => mkTp [f x, g x]
  | [] => rfl
  | x :: xs => by rw [List.map_cons, List.map_cons, zipT, zipT_self f g xs, List.map_cons]
@[simp] theorem mkTp_ee (x y : PyData) : mkTp [.e x, .e y] = .tp [.e x, .e y] := rfl
def sdI (col : Bool) : Int := if col then 1 else 0
def lnB (br bc : List (List Nat)) (col : Bool) : List (List Nat) := if col then bc else br
theorem lineR_B (br bc : List (List Nat)) (col : Bool) (i : Nat) : lineR br bc col i = ((lnB br bc col)[i]?).getD [] := rfl
theorem atI_sd {α : Type} (x y : α) (col : Bool) : atI [x, y] (sdI col) = some (if col then y else x) := by cases col <;> rfl
end RP
namespace RP
open PySem L2
open SX (S)
abbrev nL := _root_.TL.numL
abbrev jL := _root_.TL.joinL
def SD (l : List Nat) : PyData := .str (S l)
def wordL (rs : List Nat) : List Nat := if rs = [] then [48] else jL [32] (rs.map nL)
def textL (b : List (List Nat)) : List Nat := jL [44] (b.map wordL)
def boardL (br bc : List (List Nat)) : List Nat := textL br ++ (124 :: textL bc)
theorem SD_inj {a b : List Nat} : SD a = SD b ↔ a = b := ⟨fun h => SX.S_inj (PyData.str.inj h), fun h => by rw [h]⟩
theorem strsD_S : ∀ ys : List (List Nat), strsD (ys.map SD) = some (ys.map S)
  | [] => rfl
  | y :: ys => by
    show (strsD (ys.map SD)).map _ = _
    rw [strsD_S ys]; rfl
theorem sum_le {B : Nat} : ∀ ys : List (List Nat), (∀ y ∈ ys, y.length ≤ B) → (ys.map (·.length)).sum ≤ ys.length * B
  | [], _ => Nat.zero_le _
  | y :: ys, h => by
    have h1 := h y List.mem_cons_self
    have h2 := sum_le ys fun z hz => h z (List.mem_cons_of_mem _ hz)
    rw [List.map_cons, List.sum_cons, List.length_cons, Nat.succ_mul]
    omega
theorem gJoin_S (a : List Nat) (ys : List (List Nat)) (ha : a.length ≤ 1) (hy : ∀ y ∈ ys, y.length ≤ 1000) (hl : ys.length ≤ 1000) : gJoinD [SD a, .list (ys.map SD)] = some (SD (jL a ys)) := by
  have h1 := sum_le ys hy
  have h2 : ys.length * 1000 ≤ 1000 * 1000 := Nat.mul_le_mul_right _ hl
  have h3 : ys.length * a.length ≤ 1000 * 1 := Nat.mul_le_mul hl ha
  show (strsD (ys.map SD)).bind _ = _
  rw [strsD_S, Option.bind_some, SX.lens, List.length_map, SX.S_len, if_pos (by omega), SX.join_S]
  rfl
theorem gSplit_S (a b : List Nat) (hb : b ≠ []) (hk : b.all (· < 256) = true) (ha : a.length ≤ 99000) : gSplit [.d (SD a), .d (SD b)] = some (.ol ((_root_.TL.spl b 0 [] a).map fun y => .d (SD y))) := by
  show (if ((S b).length == 0) = false ∧ (S a).length ≤ 99000 then some (Tr.ol ((Txt.split (S a) (S b)).map fun y => .d (.str y))) else none) = _
  rw [SX.S_len, SX.S_len, if_pos ⟨by
    rw [beq_eq_false_iff_ne]
    exact fun z => hb (List.eq_nil_of_length_eq_zero z), ha⟩, SX.split_S hb hk, List.map_map]
  rfl
theorem gSplit_join (c : Nat) (ys : List (List Nat)) (hc : c < 256) (ne : ys ≠ []) (h : ∀ y ∈ ys, c ∉ y) (hl : (jL [c] ys).length ≤ 99000) : gSplit [.d (SD (jL [c] ys)), .d (SD [c])] = some (.ol (ys.map fun y => .d (SD y))) := by
  rw [gSplit_S _ _ (by simp) (by simp [hc]) hl, SX.spl_join ne h]
theorem joinL_len {B : Nat} (a : List Nat) : ∀ ys : List (List Nat), (∀ y ∈ ys, y.length ≤ B) → (jL a ys).length ≤ ys.length * (B + a.length)
  | [], _ => Nat.zero_le _
  | [p], h => by
    have := h p List.mem_cons_self
    show p.length ≤ 1 * (B + a.length)
    omega
  | p :: q :: r, h => by
    have h1 := h p List.mem_cons_self
    have h2 := joinL_len a (q :: r) fun z hz => h z (List.mem_cons_of_mem _ hz)
    show (p ++ (a ++ jL a (q :: r))).length ≤ _
    rw [List.length_append, List.length_append, List.length_cons, Nat.succ_mul]
    omega
theorem mem_joinL {c : Nat} (a : List Nat) : ∀ ys : List (List Nat), c ∈ jL a ys → c ∈ a ∨ ∃ y ∈ ys, c ∈ y
  | [], h => by cases h
  | [p], h => .inr ⟨p, List.mem_cons_self, h⟩
  | p :: q :: r, h => by
    have h : c ∈ p ++ (a ++ jL a (q :: r)) := h
    rcases List.mem_append.mp h with z | z
    · exact .inr ⟨p, List.mem_cons_self, z⟩
    · rcases List.mem_append.mp z with y | y
      · exact .inl y
      · rcases mem_joinL a (q :: r) y with x | ⟨w, x1, x2⟩
        · exact .inl x
        · exact .inr ⟨w, List.mem_cons_of_mem _ x1, x2⟩
theorem nL_mem {n c : Nat} (h : c ∈ nL n) : 48 ≤ c ∧ c ≤ 57 := Classical.byContradiction fun z => _root_.TL.numL_free (n := n) (s := c) (by omega) h
theorem wordL_mem {rs : List Nat} {c : Nat} (h : c ∈ wordL rs) : c = 32 ∨ (48 ≤ c ∧ c ≤ 57) := by
  unfold wordL at h
  split at h
  · rw [List.mem_singleton.mp h]; exact .inr (by omega)
  · rcases mem_joinL _ _ h with z | ⟨y, z1, z2⟩
    · exact .inl (List.mem_singleton.mp z)
    · obtain ⟨r, _, rfl⟩ := List.mem_map.mp z1
      exact .inr (nL_mem z2)
theorem textL_mem {b : List (List Nat)} {c : Nat} (h : c ∈ textL b) : c = 44 ∨ c = 32 ∨ (48 ≤ c ∧ c ≤ 57) := by
  unfold textL at h
  rcases mem_joinL _ _ h with z | ⟨y, z1, z2⟩
  · exact .inl (List.mem_singleton.mp z)
  · obtain ⟨r, _, rfl⟩ := List.mem_map.mp z1
    exact .inr (wordL_mem z2)
/-- runs that stand in a drawn line of at most 12 cells -/
def okR (rs : List Nat) : Prop := (∀ r ∈ rs, 0 < r ∧ r < 100) ∧ rs.length ≤ 13
theorem nL_len {r : Nat} (h : r < 100) : (nL r).length ≤ 2 := _root_.TL.numL_len (k := 2) (by omega) h
theorem wordL_len {rs : List Nat} (h : okR rs) : (wordL rs).length ≤ 39 := by
  unfold wordL
  split
  · decide
  · have h1 := joinL_len (B := 2) [32] (rs.map nL) fun y hy => by
      obtain ⟨r, hr, rfl⟩ := List.mem_map.mp hy
      exact nL_len (h.1 r hr).2
    rw [List.length_map] at h1
    have h2 : rs.length * (2 + 1) ≤ 13 * (2 + 1) := Nat.mul_le_mul_right _ h.2
    exact Nat.le_trans h1 h2
theorem textL_len {b : List (List Nat)} (h : ∀ rs ∈ b, okR rs) (hl : b.length ≤ 12) : (textL b).length ≤ 480 := by
  unfold textL
  have h1 := joinL_len (B := 39) [44] (b.map wordL) fun y hy => by
    obtain ⟨r, hr, rfl⟩ := List.mem_map.mp hy
    exact wordL_len (h r hr)
  rw [List.length_map] at h1
  have h2 : b.length * (39 + 1) ≤ 12 * (39 + 1) := Nat.mul_le_mul_right _ hl
  exact Nat.le_trans h1 h2
theorem nL_zero {r : Nat} (h : 0 < r) : nL r ≠ [48] := fun z => by
  have : nL r = nL 0 := by
    rw [z]
    exact (_root_.TL.numL_lt (n := 0) (by omega)).symm
  have := _root_.TL.numL_inj this
  omega
/-- only no runs are written so -/
theorem wordL_zero {rs : List Nat} (h : okR rs) : wordL rs = [48] ↔ rs = [] := by
  constructor
  · intro e
    cases rs with
    | nil => rfl
    | cons r rs =>
      unfold wordL at e
      rw [if_neg (by simp)] at e
      cases rs with
      | nil => exact absurd e (nL_zero (h.1 r List.mem_cons_self).1)
      | cons q rs =>
        have e : nL r ++ ([32] ++ jL [32] ((q :: rs).map nL)) = [48] := e
        have h1 := List.length_pos_iff.mpr (_root_.TL.numL_ne r)
        have h2 := congrArg List.length e
        rw [List.length_append, List.length_append] at h2
        simp only [List.length_cons, List.length_nil] at h2
        change 0 < (nL r).length at h1
        omega
  · rintro rfl; rfl
theorem gStr_n (n : Nat) (h : n < 100) : gStrD [.int (n : Int)] = some (SD (nL n)) := by
  have hl : (n : Int).natAbs.log2 < 1920 := by
    have h1 : (n : Int).natAbs = n := Int.natAbs_natCast n
    rw [h1]
    have h2 := Nat.log2_le_self n
    omega
  show (if (n : Int).natAbs.log2 < 1920 then some (PyData.str (Str.ofString (toString (n : Int)))) else none) = _
  rw [if_pos hl, SX.num_S]
  rfl
theorem gInt_n (n : Nat) (h : n < 100) : gIntD [SD (nL n)] = some (.int (n : Int)) := by
  have h1 := nL_len h
  show (if (S (nL n)).length ≤ 640 then (PySem.intText? (S (nL n))).map PyData.int else none) = _
  rw [SX.S_len, if_pos (by omega), ← SX.num_S, _root_.TL.int_num (Nat.le_trans h1 (by omega))]
  rfl
theorem chars_S (l : List Nat) : chars (S l) = l.map fun c => .d (SD [c]) := rfl
theorem SD_of {z : Str} {l : List Nat} (h : z = S l) : PyData.str z = SD l := congrArg PyData.str h
theorem s_sp : PyData.str (Str.ofString " ") = SD [32] := SD_of (by decide +kernel)
theorem s_cm : PyData.str (Str.ofString ",") = SD [44] := SD_of (by decide +kernel)
theorem s_br : PyData.str (Str.ofString "|") = SD [124] := SD_of (by decide +kernel)
theorem s_0 : PyData.str (Str.ofString "0") = SD [48] := SD_of (by decide +kernel)
theorem s_fig : PyData.str (Str.ofString "0123456789") = SD [48, 49, 50, 51, 52, 53, 54, 55, 56, 57] := SD_of (by decide +kernel)
@[simp] theorem isS_SD (l : List Nat) : isS (.d (SD l)) = true := rfl
@[simp] theorem lf_SD (l : List Nat) : lf (SD l) = true := rfl
@[simp] theorem mkE_SD (l : List Nat) : mkE (SD l) = .d (SD l) := rfl
@[simp] theorem mkV_SD (l : List Nat) : mkV (SD l) = .d (SD l) := rfl
@[simp] theorem pln_SD (l : List Nat) : pln (SD l) = true := rfl
@[simp] theorem lfs_SD (L : List (List Nat)) : lfs (L.map SD) = true := lfs_all SD (fun _ => rfl) L
@[simp] theorem frz_dSD (l : List Nat) : frz (.d (SD l)) = .d (SD l) := rfl
theorem gIn_fig (c : Nat) : gInS true [SD [c], SD [48, 49, 50, 51, 52, 53, 54, 55, 56, 57]] = some (.bool (!decide (48 ≤ c ∧ c ≤ 57))) := by
  show some (PyData.bool (!decide (c ∈ [48, 49, 50, 51, 52, 53, 54, 55, 56, 57]))) = _
  congr 3
  rw [Bool.eq_iff_iff, decide_eq_true_eq, decide_eq_true_eq]
  simp only [List.mem_cons, List.not_mem_nil, or_false]
  omega
theorem strOk_S {l : List Nat} (h : ∀ c ∈ l, c < 128) : PyData.strOk (S l) = true := by
  show (S l).cps.all (· < 0x110000) = true
  rw [← Array.all_toList, List.all_eq_true]
  intro c hc
  have := h c hc
  rw [decide_eq_true_eq]
  omega
theorem shk_SD (n : Nat) {l : List Nat} (h : ∀ c ∈ l, c < 128) : shk n (SD l) = true := by
  have := strOk_S h
  cases n <;> exact this
theorem gEq_SD {a b : List Nat} (ha : ∀ c ∈ a, c < 128) (hb : ∀ c ∈ b, c < 128) : gEq [.d (SD a), .d (SD b)] = some (.d (.bool (decide (a = b)))) :=
  gEq_data (x := SD a) (y := SD b) rfl rfl (shk_SD 40 ha) (shk_SD 40 hb) rfl rfl (by rw [decide_eq_true_eq, SD_inj])
theorem gNe_SD {a b : List Nat} (ha : ∀ c ∈ a, c < 128) (hb : ∀ c ∈ b, c < 128) : gNe [.d (SD a), .d (SD b)] = some (.d (.bool (!decide (a = b)))) :=
  gNe_data (x := SD a) (y := SD b) rfl rfl (shk_SD 40 ha) (shk_SD 40 hb) rfl rfl (by rw [decide_eq_true_eq, SD_inj])
-- the room that the runs of a line take
theorem rn_room : ∀ (cs : List Int) (k : Nat), (rn k cs).sum + (rn k cs).length ≤ k + cs.length + 1
  | [], k => by
    unfold rn
    split
    · simp
    · simp
  | c :: cs, k => by
    have h1 := rn_room cs (k + 1)
    have h2 := rn_room cs 0
    unfold rn
    rw [List.length_cons]
    split
    · omega
    · split
      · omega
      · rw [List.sum_cons, List.length_cons]
        omega
theorem okR_rn {cs : List Int} (h : cs.length ≤ 12) : okR (rn 0 cs) := by
  have h1 := rn_room cs 0
  refine ⟨fun r hr => ⟨rn_pos cs 0 r hr, ?_⟩, by omega⟩
  have : r ≤ (rn 0 cs).sum := by
    have : ∀ (L : List Nat), r ∈ L → r ≤ L.sum := fun L => by
      induction L with
      | nil => intro h; cases h
      | cons x L ih =>
        intro h
        rw [List.sum_cons]
        rcases List.mem_cons.mp h with z | z
        · omega
        · have := ih z
          omega
    exact this _ hr
  omega
end RP
namespace RP
open PySem L2
/-- the sum of f from k on, d of them -/
def tsm (f : Nat → Int) : Nat → Nat → Int
  | _, 0 => 0
  | k, d + 1 => f k + tsm f (k + 1) d
theorem tsm_congr {f g : Nat → Int} : ∀ (d k : Nat), (∀ j, k ≤ j → j < k + d → f j = g j) → tsm f k d = tsm g k d
  | 0, _, _ => rfl
  | d + 1, k, h => by
    show f k + tsm f (k + 1) d = g k + tsm g (k + 1) d
    rw [h k (Nat.le_refl _) (by omega), tsm_congr d (k + 1) fun j h1 h2 => h j (by omega) (by omega)]
theorem tsm_upd {f g : Nat → Int} {i : Nat} {v : Int} : ∀ (d k : Nat), k ≤ i → i < k + d → (∀ j, j ≠ i → g j = f j) → g i = f i + v → tsm g k d = tsm f k d + v
  | 0, k, h1, h2, _, _ => by omega
  | d + 1, k, h1, h2, h3, h4 => by
    show g k + tsm g (k + 1) d = f k + tsm f (k + 1) d + v
    by_cases e : k = i
    · subst e
      rw [h4, tsm_congr d (k + 1) fun j a b => h3 j (by omega)]
      omega
    · rw [h3 k e, tsm_upd d (k + 1) (by omega) (by omega) h3 h4]
      omega
theorem tsm_zero {f : Nat → Int} : ∀ (d k : Nat), (∀ j, k ≤ j → j < k + d → f j = 0) → tsm f k d = 0
  | 0, _, _ => rfl
  | d + 1, k, h => by
    show f k + tsm f (k + 1) d = 0
    rw [h k (Nat.le_refl _) (by omega), tsm_zero d (k + 1) fun j h1 h2 => h j (by omega) (by omega)]
    rfl
theorem tsm_one {f : Nat → Int} {i : Nat} (d k : Nat) (h1 : k ≤ i) (h2 : i < k + d) (h : ∀ j, j ≠ i → f j = 0) : tsm f k d = f i := by
  rw [tsm_upd (f := fun _ => 0) (g := f) (v := f i) d k h1 h2 h (by show f i = 0 + f i; omega), tsm_zero d k fun _ _ _ => rfl]
  omega
/-- what still lies ahead: all counted so far, each by its ways -/
def rowZ (rs : List Nat) (s : Sg) (T : Nat → Nat → Int) (a k : Nat) : Int := tsm (fun b => T a b * wyM rs s a b) k (rs.length + 1 - k)
def aheadZ (rs : List Nat) (s : Sg) (T : Nat → Nat → Int) (a k : Nat) : Int := rowZ rs s T a k + tsm (fun a' => rowZ rs s T a' 0) (a + 1) (s.length + 1 - a)
theorem aheadZ_out (rs : List Nat) (s : Sg) (T : Nat → Nat → Int) (a k : Nat) (hk : k ≤ rs.length) : aheadZ rs s T a k = T a k * wyM rs s a k + aheadZ rs s T a (k + 1) := by
  unfold aheadZ rowZ
  rw [show rs.length + 1 - k = (rs.length + 1 - (k + 1)) + 1 by omega]
  show T a k * wyM rs s a k + tsm _ (k + 1) _ + _ = _
  omega
theorem aheadZ_row (rs : List Nat) (s : Sg) (T : Nat → Nat → Int) (a : Nat) (ha : a ≤ s.length) : aheadZ rs s T a (rs.length + 1) = aheadZ rs s T (a + 1) 0 := by
  unfold aheadZ
  have e : rowZ rs s T a (rs.length + 1) = 0 := by
    unfold rowZ
    rw [show rs.length + 1 - (rs.length + 1) = 0 by omega]
    rfl
  rw [e, show s.length + 1 - a = (s.length + 1 - (a + 1)) + 1 by omega]
  show 0 + (rowZ rs s T (a + 1) 0 + tsm _ (a + 1 + 1) _) = _
  omega
theorem aheadZ_up (rs : List Nat) (s : Sg) (T : Nat → Nat → Int) (a k i j : Nat) (v : Int) (h1 : a < i) (h2 : i ≤ s.length + 1) (hj : j ≤ rs.length) : aheadZ rs s (upT T i j (T i j + v)) a k = aheadZ rs s T a k + v * wyM rs s i j := by
  unfold aheadZ
  have e1 : rowZ rs s (upT T i j (T i j + v)) a k = rowZ rs s T a k := by
    unfold rowZ
    refine tsm_congr _ _ fun b _ _ => ?_
    show upT T i j (T i j + v) a b * _ = _
    unfold upT
    rw [if_neg (by omega)]
  have e2 : tsm (fun a' => rowZ rs s (upT T i j (T i j + v)) a' 0) (a + 1) (s.length + 1 - a) = tsm (fun a' => rowZ rs s T a' 0) (a + 1) (s.length + 1 - a) + v * wyM rs s i j := by
    refine tsm_upd (i := i) _ _ (by omega) (by omega) (fun a' ha' => ?_) ?_
    · unfold rowZ
      refine tsm_congr _ _ fun b _ _ => ?_
      show upT T i j (T i j + v) a' b * _ = _
      unfold upT
      rw [if_neg (by omega)]
    · unfold rowZ
      refine tsm_upd (i := j) _ _ (by omega) (by omega) (fun b hb => ?_) ?_
      · show upT T i j (T i j + v) i b * _ = _
        unfold upT
        rw [if_neg (by omega)]
      · show upT T i j (T i j + v) i j * _ = _
        unfold upT
        rw [if_pos ⟨rfl, rfl⟩, Int.add_mul]
  rw [e1, e2]
  omega
theorem wyM_past (rs : List Nat) (s : Sg) (k : Nat) : wyM rs s (s.length + 1) k = wyM rs s s.length k := by
  unfold wyM
  rw [List.drop_eq_nil_of_le (show s.length ≤ s.length + 1 by omega), List.drop_eq_nil_of_le (Nat.le_refl _)]
/-- at the end -/
theorem aheadZ_end (rs : List Nat) (s : Sg) (T : Nat → Nat → Int) : aheadZ rs s T s.length 0 = T s.length rs.length + T (s.length + 1) rs.length := by
  have row : ∀ a, a = s.length ∨ a = s.length + 1 → rowZ rs s T a 0 = T a rs.length := fun a ha => by
    have hw : ∀ b, b ≤ rs.length → wyM rs s a b = if b = rs.length then 1 else 0 := fun b hb => by
      rcases ha with rfl | rfl
      · exact wyM_end rs s b hb
      · rw [wyM_past]; exact wyM_end rs s b hb
    unfold rowZ
    rw [tsm_congr (g := fun b => if b = rs.length then T a b else 0) _ _ fun b _ h => by
      rw [hw b (by omega)]
      split
      · rw [Int.mul_one]
      · rw [Int.mul_zero]]
    rw [tsm_one (i := rs.length) _ _ (by omega) (by omega) fun j hj => if_neg hj, if_pos rfl]
  unfold aheadZ
  rw [row _ (.inl rfl), show s.length + 1 - s.length = 0 + 1 by omega]
  show _ + (rowZ rs s T (s.length + 1) 0 + 0) = _
  rw [row _ (.inr rfl)]
  omega
def zT : Nat → Nat → Int := fun _ _ => 0
theorem aheadZ_start (rs : List Nat) (s : Sg) : aheadZ rs s (upT zT 0 0 1) 0 0 = wyM rs s 0 0 := by
  rw [aheadZ_out rs s _ 0 0 (Nat.zero_le _)]
  have e : aheadZ rs s (upT zT 0 0 1) 0 (0 + 1) = 0 := by
    unfold aheadZ
    have e1 : rowZ rs s (upT zT 0 0 1) 0 (0 + 1) = 0 := tsm_zero _ _ fun b h _ => by
      show upT zT 0 0 1 0 b * _ = 0
      unfold upT
      rw [if_neg (by omega)]
      exact Int.zero_mul _
    have e2 : tsm (fun a' => rowZ rs s (upT zT 0 0 1) a' 0) (0 + 1) (s.length + 1 - 0) = 0 := tsm_zero _ _ fun a h _ => tsm_zero _ _ fun b _ _ => by
      show upT zT 0 0 1 a b * _ = 0
      unfold upT
      rw [if_neg (by omega)]
      exact Int.zero_mul _
    rw [e1, e2]; rfl
  rw [e]
  show upT zT 0 0 1 0 0 * _ + 0 = _
  unfold upT
  rw [if_pos ⟨rfl, rfl⟩, Int.one_mul, Int.add_zero]
/-- one place of the table told ahead -/
def fwdT (rs : List Nat) (s : Sg) (T : Nat → Nat → Int) (a k : Nat) : Nat → Nat → Int :=
  let T1 := if (s[a]?).getD none = some 1 then T else upT T (a + 1) k (T (a + 1) k + T a k)
  if h : k < rs.length then (if roomAt rs[k] s a then upT T1 (a + rs[k] + 1) (k + 1) (T1 (a + rs[k] + 1) (k + 1) + T1 a k) else T1) else T1
theorem fwdT_keep (rs : List Nat) (s : Sg) (T : Nat → Nat → Int) (a k : Nat) (hb : Bits s) (hp : ∀ r ∈ rs, 0 < r) (ha : a < s.length) (hk : k ≤ rs.length) : aheadZ rs s (fwdT rs s T a k) a (k + 1) = aheadZ rs s T a k := by
  rw [aheadZ_out rs s T a k hk, wyM_step rs s a k hb hp ha]
  have hs : (s[a]?).getD none = s[a] := by rw [List.getElem?_eq_getElem ha]; rfl
  unfold fwdT
  rw [hs]
  obtain ⟨T1, e1, e2, e3⟩ : ∃ T1, (if s[a] = some 1 then T else upT T (a + 1) k (T (a + 1) k + T a k)) = T1 ∧ T1 a k = T a k ∧ aheadZ rs s T1 a (k + 1) = aheadZ rs s T a (k + 1) + T a k * (if s[a] = some 1 then 0 else wyM rs s (a + 1) k) := by
    refine ⟨_, rfl, ?_, ?_⟩
    · split
      · rfl
      · unfold upT
        rw [if_neg (by omega)]
    · split
      · rw [Int.mul_zero, Int.add_zero]
      · exact aheadZ_up rs s T a (k + 1) (a + 1) k (T a k) (by omega) (by omega) hk
  simp only [e1]
  rw [Int.mul_add]
  by_cases h : k < rs.length
  · rw [dif_pos h, dif_pos h]
    by_cases hr : roomAt rs[k] s a = true
    · rw [if_pos hr, if_pos hr]
      have hl := (blk_len rs[k] s a (by omega) hr).2
      have hpos := hp _ (List.getElem_mem h)
      rw [aheadZ_up rs s T1 a (k + 1) (a + rs[k] + 1) (k + 1) (T1 a k) (by omega) (by omega) (by omega), e3, e2]
      have hw : wyM rs s (min s.length (a + rs[k] + 1)) (k + 1) = wyM rs s (a + rs[k] + 1) (k + 1) := by
        by_cases q : a + rs[k] + 1 ≤ s.length
        · rw [Nat.min_eq_right q]
        · rw [Nat.min_eq_left (by omega), show a + rs[k] + 1 = s.length + 1 by omega, wyM_past]
      rw [hw]
      omega
    · rw [if_neg hr, if_neg hr, e3, Int.mul_zero]
      omega
  · rw [dif_neg h, dif_neg h, e3, Int.mul_zero]
    omega
-- lines in order
theorem lex_cons (x : Int) (a b : List Int) : HT.lexLt (x :: a) (x :: b) = HT.lexLt a b := by rw [HT.lexLt_cons, if_pos rfl]
theorem every_lex : ∀ n : Nat, (everyM n).Pairwise fun a b => HT.lexLt a b = true
  | 0 => List.pairwise_singleton _ _
  | n + 1 => by
    have ih := every_lex n
    show List.Pairwise _ ((everyM n).map (fun r => 0 :: r) ++ (everyM n).map (fun r => 1 :: r))
    rw [List.pairwise_append, List.pairwise_map, List.pairwise_map]
    refine ⟨ih.imp fun h => by rw [lex_cons]; exact h, ih.imp fun h => by rw [lex_cons]; exact h, fun a ha b hb => ?_⟩
    obtain ⟨a', _, rfl⟩ := List.mem_map.mp ha
    obtain ⟨b', _, rfl⟩ := List.mem_map.mp hb
    rw [HT.lexLt_cons, if_neg (by decide)]
    decide
theorem fit_lex (rs : List Nat) (s : Sg) {i : Nat} {a b : List Int} (h1 : (fit rs s)[i]? = some a) (h2 : (fit rs s)[i + 1]? = some b) : HT.lexLt a b = true := by
  have h : (fit rs s).Pairwise fun a b => HT.lexLt a b = true := List.Pairwise.filter _ (every_lex _)
  rw [List.pairwise_iff_getElem] at h
  obtain ⟨l1, rfl⟩ := List.getElem?_eq_some_iff.mp h1
  obtain ⟨l2, rfl⟩ := List.getElem?_eq_some_iff.mp h2
  exact h i (i + 1) l1 l2 (by omega)
theorem dAli_tab {N m j k : Nat} {T : Nat → Nat → Int} {v : Int} {fj fk fv : En → Rs Tr} {en : En} (hi : en[3]? = some (some (OL (tabT N m T)))) (hj : fj en = .ok (.d (.int (j : Int)))) (hjN : j ≤ N) (hl : 7 < en.length)
    (hv : fv (en.set 7 (some (.v (.list ((rowT m (T j)).map .int))))) = .ok (.d (.int v))) (hk : fk (en.set 7 (some (.v (.list ((rowT m (T j)).map .int))))) = .ok (.d (.int (k : Int)))) (hkm : k ≤ m) :
    dAli 3 7 fj fk fv en = .nx ((en.set 7 none).set 3 (some (OL (tabT N m (upT T j k v))))) := by
  have h0 : pN 3 en = .ok (3, []) := by
    unfold pN
    rw [hi]
  have hx : ixN (N + 1) (j : Int) = some j := ixN_nat (by omega)
  have hjl : j < N + 1 := by omega
  have hdj : dI fj en = .ok (j : Int) := by unfold dI; rw [hj]; rfl
  have h3 : pSub (pN 3) fj en = .ok (3, [j]) := by
    rw [e_pSub, h0]
    simp only [Rs.bind_ok', hdj]
    simp [hi, hx, tabT_len, hjl]
  have hg : ((tabT N m T).map fun r => Tr.ol (r.map fun i => .d (.int i)))[j]? = some (.ol ((rowT m (T j)).map fun i => .d (.int i))) := by
    rw [List.getElem?_map, tabT_get hjN]; rfl
  have hrow : rowAt en (3, [j]) = some ((rowT m (T j)).map .int) := by
    unfold rowAt
    rw [hi]
    have hn : nodeT (OL (tabT N m T)) [j] = some (.ol ((rowT m (T j)).map fun i => .d (.int i))) := by
      show (((tabT N m T).map fun r => Tr.ol (r.map fun i => .d (.int i)))[j]?).bind _ = _
      rw [hg]; rfl
    simp only [hn]
    simp
  have hdk : dI fk (en.set 7 (some (.v (.list ((rowT m (T j)).map .int))))) = .ok (k : Int) := by unfold dI; rw [hk]; rfl
  unfold dAli
  rw [h3]
  simp only [onR_ok, hrow]
  show (if 7 < en.length ∧ (3 : Nat) ≠ 7 then _ else _) = _
  rw [if_pos ⟨hl, by decide⟩, hv]
  simp only [onR_ok]
  show (onR (dI fk _) _ _) = _
  rw [hdk]
  simp only [onR_ok]
  unfold chg
  have h2 : ixN (m + 1) (k : Int) = some k := ixN_nat (by omega)
  have e3 : (en.set 7 none)[3]? = some (some (OL (tabT N m T))) := by rw [List.getElem?_set_ne (by decide)]; exact hi
  have hs := tabT_set (v := v) (T := T) hjN hkm
  rw [e3]
  simp [hg, rowT_len, h2, setN]
  rw [← hs]
  have e9 : OL ((tabT N m T).set j ((rowT m (T j)).set k v)) = .ol (((tabT N m T).map fun r => Tr.ol (r.map fun i => .d (.int i))).set j (.ol (((rowT m (T j)).map fun i => Tr.d (.int i)).set k (.d (.int v))))) := by
    show Tr.ol (((tabT N m T).set j ((rowT m (T j)).set k v)).map fun r => Tr.ol (r.map fun i => .d (.int i))) = _
    rw [List.map_set, List.map_set]
  rw [e9]
end RP
namespace RP
open PySem L2
def ch : Nat → Nat → Nat
  | _, 0 => 1
  | 0, _ + 1 => 0
  | n + 1, k + 1 => ch n k + ch n (k + 1)
theorem ch_0 (n : Nat) : ch n 0 = 1 := by cases n <;> rfl
theorem ch_lt : ∀ (n k : Nat), n < k → ch n k = 0
  | 0, 0, h => by omega
  | 0, k + 1, _ => rfl
  | n + 1, 0, h => by omega
  | n + 1, k + 1, h => by
    show ch n k + ch n (k + 1) = 0
    rw [ch_lt n k (by omega), ch_lt n (k + 1) (by omega)]
theorem ch_nn : ∀ n : Nat, ch n n = 1
  | 0 => rfl
  | n + 1 => by
    show ch n n + ch n (n + 1) = 1
    rw [ch_nn n, ch_lt n (n + 1) (by omega)]
theorem ch_mul : ∀ (n k : Nat), ch n (k + 1) * (k + 1) + ch n k * k = ch n k * n
  | 0, 0 => rfl
  | 0, k + 1 => by
    show 0 * _ + 0 * _ = 0 * 0
    omega
  | n + 1, 0 => by
    have h : ch n 1 * 1 + ch n 0 * 0 = ch n 0 * n := ch_mul n 0
    rw [ch_0] at h
    rw [ch_0]
    show (ch n 0 + ch n 1) * (0 + 1) + 1 * 0 = 1 * (n + 1)
    rw [ch_0]
    omega
  | n + 1, k + 1 => by
    have h1 := ch_mul n k
    have h2 : ch n (k + 2) * (k + 2) + ch n (k + 1) * (k + 1) = ch n (k + 1) * n := ch_mul n (k + 1)
    show (ch n (k + 1) + ch n (k + 2)) * (k + 1 + 1) + (ch n k + ch n (k + 1)) * (k + 1) = (ch n k + ch n (k + 1)) * (n + 1)
    simp only [Nat.add_mul, Nat.mul_add, Nat.mul_one] at h1 h2 ⊢
    omega
theorem ch_div (n k : Nat) (h : k ≤ n) : (ch n k : Int) * ((n : Int) - (k : Int)) / ((k : Int) + 1) = (ch n (k + 1) : Int) := by
  have h1 := ch_mul n k
  have e : (ch n k : Int) * ((n : Int) - (k : Int)) = (ch n (k + 1) : Int) * ((k : Int) + 1) := by
    have h2 : ((ch n (k + 1) * (k + 1) + ch n k * k : Nat) : Int) = ((ch n k * n : Nat) : Int) := congrArg _ h1
    simp only [Int.natCast_add, Int.natCast_mul] at h2
    rw [Int.mul_sub]
    have h3 : ((k + 1 : Nat) : Int) = (k : Int) + 1 := by omega
    simp only [Int.natCast_one] at h2
    omega
  rw [e, Int.mul_ediv_cancel _ (by omega)]
/-! ### empty sights -/
abbrev sE (n : Nat) : Sg := List.replicate n none
theorem bits_sE (n : Nat) : Bits (sE n) := fun c hc => .inl (List.mem_replicate.mp hc).2
theorem room_sE (r n : Nat) : roomN r (sE n) = decide (r ≤ n) := by
  unfold roomN
  have h1 : ((sE n).take r).all (fun c => !(c == some 0)) = true := by
    rw [List.all_eq_true]
    intro x hx
    rw [(List.mem_replicate.mp (List.mem_of_mem_take hx)).2]
    rfl
  have h2 : ((sE n)[r]? != some (some 1)) = true := by
    rw [List.getElem?_replicate]
    split <;> rfl
  rw [h1, h2, List.length_replicate, Bool.and_true, Bool.and_true]
theorem fit_sE (rs : List Nat) (n : Nat) (hp : ∀ r ∈ rs, 0 < r) : fit rs (sE (n + 1)) = (fit rs (sE n)).map (fun cs => 0 :: cs) ++ fitRun rs (sE (n + 1)) := by
  have h := fit_cons rs none (sE n) (bits_sE (n + 1)) hp
  rw [if_neg (by simp)] at h
  exact h
theorem fitRun_sE (r : Nat) (rs : List Nat) (n : Nat) : fitRun (r :: rs) (sE (n + 1)) = if r ≤ n + 1 then (fit rs (sE (n - r))).map (fun cs => (List.replicate r 1 ++ if r < n + 1 then [0] else []) ++ cs) else [] := by
  show (if roomN r (sE (n + 1)) = true then (fit rs ((sE (n + 1)).drop (r + 1))).map (fun cs => blk r (sE (n + 1)) ++ cs) else []) = _
  rw [room_sE]
  by_cases h : r ≤ n + 1
  · rw [if_pos (decide_eq_true h), if_pos h, List.drop_replicate, show n + 1 - (r + 1) = n - r by omega]
    unfold blk
    rw [List.length_replicate]
  · rw [if_neg (by rw [decide_eq_false h]; decide), if_neg h]
def szR (rs : List Nat) : Nat := rs.sum + rs.length
theorem szR_cons (r : Nat) (rs : List Nat) : szR (r :: rs) = r + 1 + szR rs := by
  unfold szR
  rw [List.sum_cons, List.length_cons]; omega
theorem szR_one {rs : List Nat} (hp : ∀ r ∈ rs, 0 < r) (h : szR rs ≤ 1) : rs = [] := by
  cases rs with
  | nil => rfl
  | cons r rs =>
    have := hp r List.mem_cons_self
    rw [szR_cons] at h
    omega
theorem cnt_sE : ∀ (n : Nat) (rs : List Nat), (∀ r ∈ rs, 0 < r) → (fit rs (sE n)).length = if szR rs ≤ n + 1 then ch (n + 1 - szR rs + rs.length) rs.length else 0 := by
  intro n
  induction n using Nat.strongRecOn with
  | _ n ih =>
    intro rs hp
    cases n with
    | zero =>
      show (fit rs []).length = _
      rw [fit_nil]
      by_cases h : rs = []
      · subst h; rfl
      · rw [if_neg h, if_neg fun z => h (szR_one hp z)]; rfl
    | succ n =>
      rw [fit_sE rs n hp, List.length_append, List.length_map, ih n (by omega) rs hp]
      cases rs with
      | nil =>
        show (if szR [] ≤ n + 1 then ch (n + 1 - szR [] + 0) 0 else 0) + 0 = if szR [] ≤ n + 1 + 1 then ch _ 0 else 0
        rw [ch_0, ch_0]
        have : szR [] = 0 := rfl
        rw [if_pos (by omega), if_pos (by omega)]
      | cons r rs =>
        have hr := hp r List.mem_cons_self
        have hp' : ∀ q ∈ rs, 0 < q := fun q hq => hp q (List.mem_cons_of_mem _ hq)
        rw [fitRun_sE, szR_cons, List.length_cons]
        by_cases h1 : r ≤ n + 1
        · rw [if_pos h1, List.length_map, ih (n - r) (by omega) rs hp']
          by_cases h2 : r + 1 + szR rs ≤ n + 2
          · have h3 : szR rs ≤ n - r + 1 := by omega
            rw [if_pos h3, if_pos (show r + 1 + szR rs ≤ n + 1 + 1 by omega)]
            by_cases hre : r ≤ n
            · obtain ⟨x, hx⟩ : ∃ x, x = n + 2 - (r + 1 + szR rs) + rs.length := ⟨_, rfl⟩
              rw [show n - r + 1 - szR rs + rs.length = x by omega, show n + 1 + 1 - (r + 1 + szR rs) + (rs.length + 1) = x + 1 by omega]
              show _ = ch x rs.length + ch x (rs.length + 1)
              by_cases h4 : r + 1 + szR rs ≤ n + 1
              · rw [if_pos h4, show n + 1 - (r + 1 + szR rs) + (rs.length + 1) = x by omega]
                omega
              · rw [if_neg h4, ch_lt x (rs.length + 1) (by omega)]
                omega
            · have hnil : rs = [] := szR_one hp' (by omega)
              subst hnil
              have e0 : szR [] = 0 := rfl
              rw [e0, if_neg (by omega)]
              show 0 + ch _ 0 = ch (n + 1 + 1 - (r + 1 + 0) + (0 + 1)) (0 + 1)
              rw [ch_0, show n + 1 + 1 - (r + 1 + 0) + (0 + 1) = 1 by omega]
              rfl
          · have h3 : ¬ szR rs ≤ n - r + 1 := fun z => by
              by_cases hre : r ≤ n
              · omega
              · have hnil : rs = [] := szR_one hp' (by omega)
                subst hnil
                have e0 : szR [] = 0 := rfl
                omega
            rw [if_neg h3, if_neg (by omega), if_neg (by omega)]
        · rw [if_neg h1, if_neg (by omega), if_neg (by omega)]
          rfl
/-! ### the first and the last one -/
def jn : List Nat → List Int
  | [] => []
  | [r] => List.replicate r 1
  | r :: q :: rs => List.replicate r 1 ++ (0 :: jn (q :: rs))
theorem jn_cons (r : Nat) (rs : List Nat) : jn (r :: rs) = List.replicate r 1 ++ if rs = [] then [] else 0 :: jn rs := by
  cases rs with
  | nil => show List.replicate r 1 = List.replicate r 1 ++ []; rw [List.append_nil]
  | cons q rs => rw [if_neg (by simp)]; rfl
theorem jn_len : ∀ rs : List Nat, rs ≠ [] → (jn rs).length + 1 = szR rs
  | [], h => absurd rfl h
  | r :: rs, _ => by
    rw [jn_cons, szR_cons, List.length_append, List.length_replicate]
    by_cases h : rs = []
    · subst h; rfl
    · have := jn_len rs h
      rw [if_neg h, List.length_cons]
      omega
theorem jn_len2 (rs : List Nat) (n : Nat) (h : szR rs ≤ n + 1) : (jn rs).length ≤ n := by
  cases rs with
  | nil => exact Nat.zero_le _
  | cons r rs =>
    have := jn_len (r :: rs) (by simp)
    omega
theorem jn_nil {rs : List Nat} (hp : ∀ r ∈ rs, 0 < r) : jn rs = [] ↔ rs = [] := by
  constructor
  · intro h
    cases rs with
    | nil => rfl
    | cons r rs =>
      have h1 := jn_len (r :: rs) (by simp)
      have h2 := hp r List.mem_cons_self
      rw [h, szR_cons] at h1
      simp at h1
      omega
  · rintro rfl; rfl
theorem jn_snoc : ∀ (p : List Nat) (r : Nat), jn (p ++ [r]) = (if p = [] then [] else jn p ++ [0]) ++ List.replicate r 1
  | [], r => by
    show List.replicate r 1 = [] ++ List.replicate r 1
    rfl
  | q :: p, r => by
    have e : jn (q :: (p ++ [r])) = List.replicate q 1 ++ 0 :: jn (p ++ [r]) := by
      rw [jn_cons, if_neg (by simp)]
    show jn (q :: (p ++ [r])) = _
    rw [e, jn_snoc p r, if_neg (show ¬ q :: p = [] by simp), jn_cons]
    by_cases h : p = []
    · subst h
      rw [if_pos rfl, if_pos rfl]
      simp
    · rw [if_neg h, if_neg h]
      simp
theorem jn_rev : ∀ rs : List Nat, (jn rs.reverse).reverse = jn rs
  | [] => rfl
  | r :: rs => by
    rw [List.reverse_cons, jn_snoc, jn_cons, List.reverse_append, List.reverse_replicate]
    congr 1
    by_cases h : rs = []
    · subst h; rfl
    · rw [if_neg h, if_neg (by simpa using h), List.reverse_append, jn_rev rs]
      rfl
theorem fit_ne {rs : List Nat} {n : Nat} (hp : ∀ r ∈ rs, 0 < r) (h : szR rs ≤ n + 1) : fit rs (sE n) ≠ [] := fun z => by
  have h1 := cnt_sE n rs hp
  have h2 : ∀ (a k : Nat), 0 < ch (a + k) k := fun a k => by
    induction k generalizing a with
    | zero => rw [ch_0]; omega
    | succ k ih =>
      show 0 < ch (a + k) k + ch (a + k) (k + 1)
      have := ih a
      omega
  have h3 := h2 (n + 1 - szR rs) rs.length
  rw [z, if_pos h] at h1
  simp at h1
  omega
theorem fit_no {rs : List Nat} {n : Nat} (hp : ∀ r ∈ rs, 0 < r) (h : ¬ szR rs ≤ n + 1) : fit rs (sE n) = [] := by
  have h1 := cnt_sE n rs hp
  rw [if_neg h] at h1
  exact List.eq_nil_of_length_eq_zero h1
def zs (n : Nat) : List Int := List.replicate n 0
theorem fit_nilr : ∀ n : Nat, fit [] (sE n) = [zs n]
  | 0 => rfl
  | n + 1 => by
    rw [fit_sE [] n (fun r h => by cases h), fit_nilr n]
    rfl
theorem last_sE : ∀ (n : Nat) (rs : List Nat), (∀ r ∈ rs, 0 < r) → szR rs ≤ n + 1 → (fit rs (sE n)).getLast? = some (jn rs ++ zs (n - (jn rs).length)) := by
  intro n
  induction n using Nat.strongRecOn with
  | _ n ih =>
    intro rs hp h
    cases rs with
    | nil => rw [fit_nilr]; rfl
    | cons r rs =>
      have hr := hp r List.mem_cons_self
      have hp' : ∀ q ∈ rs, 0 < q := fun q hq => hp q (List.mem_cons_of_mem _ hq)
      rw [szR_cons] at h
      cases n with
      | zero => omega
      | succ n =>
        have h1 : r ≤ n + 1 := by omega
        have hrs : szR rs ≤ n - r + 1 := by omega
        have ihr := ih (n - r) (by omega) rs hp' hrs
        rw [fit_sE _ n hp, fitRun_sE, if_pos h1, List.getLast?_append, List.getLast?_map, ihr]
        show some _ = _
        congr 1
        rw [jn_cons]
        by_cases hn : rs = []
        · subst hn
          rw [if_pos rfl]
          by_cases hlt : r < n + 1
          · rw [if_pos hlt]
            show List.replicate r 1 ++ [0] ++ ([] ++ zs (n - r - 0)) = List.replicate r 1 ++ [] ++ zs (n + 1 - (List.replicate r (1 : Int) ++ []).length)
            rw [List.append_nil, List.length_replicate, List.nil_append, List.append_assoc, show n + 1 - r = (n - r - 0) + 1 by omega]
            rfl
          · rw [if_neg hlt]
            show List.replicate r 1 ++ [] ++ ([] ++ zs (n - r - 0)) = List.replicate r 1 ++ [] ++ zs (n + 1 - (List.replicate r (1 : Int) ++ []).length)
            rw [List.append_nil, List.length_replicate, List.nil_append, show n - r - 0 = n + 1 - r by omega]
        · have hj := jn_len rs hn
          have hlt : r < n + 1 := by omega
          rw [if_neg hn, if_pos hlt, List.length_append, List.length_replicate, List.length_cons]
          rw [show n + 1 - (r + ((jn rs).length + 1)) = n - r - (jn rs).length by omega]
          simp
theorem first_sE : ∀ (n : Nat) (rs : List Nat), (∀ r ∈ rs, 0 < r) → szR rs ≤ n + 1 → (fit rs (sE n)).head? = some (zs (n - (jn rs).length) ++ jn rs) := by
  intro n
  induction n using Nat.strongRecOn with
  | _ n ih =>
    intro rs hp h
    cases rs with
    | nil =>
      rw [fit_nilr]
      show some (zs n) = some (zs (n - 0) ++ [])
      rw [List.append_nil]; rfl
    | cons r rs =>
      have hr := hp r List.mem_cons_self
      have hp' : ∀ q ∈ rs, 0 < q := fun q hq => hp q (List.mem_cons_of_mem _ hq)
      cases n with
      | zero => rw [szR_cons] at h; omega
      | succ n =>
        rw [fit_sE _ n hp]
        by_cases h0 : szR (r :: rs) ≤ n + 1
        · have i := ih n (by omega) _ hp h0
          have hl := jn_len2 _ _ h0
          rw [List.head?_append, List.head?_map, i]
          show some _ = some _
          congr 1
          rw [show n + 1 - (jn (r :: rs)).length = (n - (jn (r :: rs)).length) + 1 by omega]
          rfl
        · rw [fit_no hp h0]
          rw [szR_cons] at h h0
          have h1 : r ≤ n + 1 := by omega
          have hrs : szR rs ≤ n - r + 1 := by omega
          have i := ih (n - r) (by omega) rs hp' hrs
          rw [fitRun_sE, if_pos h1]
          show (List.map _ _).head? = _
          rw [List.head?_map, i]
          show some _ = some _
          congr 1
          rw [jn_cons]
          by_cases hn : rs = []
          · subst hn
            have e0 : szR [] = 0 := rfl
            rw [if_pos rfl, if_neg (by omega), List.append_nil, List.length_replicate]
            show List.replicate r 1 ++ (zs (n - r - 0) ++ []) = zs (n + 1 - r) ++ List.replicate r 1
            rw [show n - r - 0 = 0 by omega, show n + 1 - r = 0 by omega]
            show List.replicate r 1 ++ [] = [] ++ List.replicate r 1
            rw [List.append_nil]; rfl
          · have hj := jn_len rs hn
            rw [if_neg hn, if_pos (show r < n + 1 by omega), List.length_append, List.length_replicate, List.length_cons]
            rw [show n + 1 - (r + ((jn rs).length + 1)) = 0 by omega, show n - r - (jn rs).length = 0 by omega]
            show List.replicate r 1 ++ [0] ++ ([] ++ jn rs) = [] ++ (List.replicate r 1 ++ 0 :: jn rs)
            simp
end RP
namespace RP
open PySem L2
/-- W tells what V tells -/
def Le (R C : Nat) (V W : Vw) : Prop := ∀ r c, r < R → c < C → ∀ x, V r c = some x → W r c = some x
theorem Le.refl (R C : Nat) (V : Vw) : Le R C V V := fun _ _ _ _ _ h => h
theorem Le.trans {R C : Nat} {U V W : Vw} (h1 : Le R C U V) (h2 : Le R C V W) : Le R C U W := fun r c hr hc x h => h2 r c hr hc x (h1 r c hr hc x h)
-- equal where it counts
theorem Le.anti {R C : Nat} {V W : Vw} (h1 : Le R C V W) (h2 : Le R C W V) : ∀ r c, r < R → c < C → V r c = W r c := fun r c hr hc => by
  cases q : V r c with
  | some x => exact (h1 r c hr hc x q).symm
  | none =>
    cases q2 : W r c with
    | none => rfl
    | some x => rw [h2 r c hr hc x q2] at q; cases q
theorem line_le {R C : Nat} {V W : Vw} (h : Le R C V W) {l : Bool × Nat} (ok : okL R C l) {j : Nat} {x : Int} (hj : (lineV R C V l.1 l.2)[j]? = some (some x)) : (lineV R C W l.1 l.2)[j]? = some (some x) := by
  have hl := (List.getElem?_eq_some_iff.mp hj).1
  obtain ⟨r, c, h1, h2, h3, h4⟩ := line_at ok V hl
  have a := lineV_get (V := V) (col := l.1) h1 h2
  have b := lineV_get (V := W) (col := l.1) h1 h2
  rw [h3, h4] at a b
  rw [hj] at a
  rw [b, h r c h1 h2 x (Option.some.inj a).symm]
theorem fit_le {R C : Nat} {V W : Vw} (h : Le R C V W) {l : Bool × Nat} (ok : okL R C l) (rs : List Nat) {cs : List Int} (hc : cs ∈ fit rs (lineV R C W l.1 l.2)) : cs ∈ fit rs (lineV R C V l.1 l.2) := by
  have hll : (lineV R C V l.1 l.2).length = (lineV R C W l.1 l.2).length := by rw [lineV_len, lineV_len]
  rw [fit_mem] at hc ⊢
  obtain ⟨h1, h2, h3, h4⟩ := hc
  refine ⟨h1.trans hll.symm, h2, (agr_iff _ _ (h1.trans hll.symm)).mpr fun j hj => ?_, h4⟩
  have hW := (agr_iff _ _ h1).mp h3 j (by omega)
  cases q : (lineV R C V l.1 l.2)[j]? with
  | none => rw [List.getElem?_eq_none_iff] at q; omega
  | some o =>
    cases o with
    | none => exact .inl rfl
    | some x =>
      rw [line_le h ok q] at hW
      rcases hW with z | z
      · cases z
      · exact .inr z
/-- what all of more lines have, all of fewer have -/
theorem best_le {R C : Nat} {V W : Vw} (h : Le R C V W) {l : Bool × Nat} (ok : okL R C l) (rs : List Nat) (ne : fit rs (lineV R C W l.1 l.2) ≠ []) {j : Nat} (hj : j < (lineV R C V l.1 l.2).length) {x : Int} (hx : bestC rs (lineV R C V l.1 l.2) j = some x) : bestC rs (lineV R C W l.1 l.2) j = some x := by
  have hll : (lineV R C V l.1 l.2).length = (lineV R C W l.1 l.2).length := by rw [lineV_len, lineV_len]
  have hj' : j < (lineV R C W l.1 l.2).length := by omega
  have neV : fit rs (lineV R C V l.1 l.2) ≠ [] := fun z => by
    obtain ⟨cs, hcs⟩ := List.exists_mem_of_ne_nil _ ne
    have := fit_le h ok rs hcs
    rw [z] at this; cases this
  have hV := (bestC_bit rs _ neV hj hx)
  have all : ∀ cs ∈ fit rs (lineV R C W l.1 l.2), cs[j]? = some x := fun cs hcs => hV.2 cs (fit_le h ok rs hcs)
  rcases bestC_spec rs _ ne hj' with ⟨g1, g2, g3, g4⟩ | ⟨g1, g2, g3, _⟩ | ⟨g1, g2, g3, _⟩
  · obtain ⟨c0, h0, h0'⟩ := (has_iff _ _ _ _).mp g3
    obtain ⟨c1, h1, h1'⟩ := (has_iff _ _ _ _).mp g4
    rw [all c0 h0] at h0'
    rw [all c1 h1] at h1'
    have e0 := Option.some.inj h0'
    have e1 := Option.some.inj h1'
    omega
  · rw [g1]
    obtain ⟨cs, hcs⟩ := List.exists_mem_of_ne_nil _ ne
    have e := (bestC_bit rs _ ne hj' g1).2 cs hcs
    rw [all cs hcs] at e
    exact e.symm
  · rw [g1]
    obtain ⟨cs, hcs⟩ := List.exists_mem_of_ne_nil _ ne
    have e := (bestC_bit rs _ ne hj' g1).2 cs hcs
    rw [all cs hcs] at e
    exact e.symm
/-- no line tells more, and each has a laying -/
def Fx (br bc : List (List Nat)) (R C : Nat) (W : Vw) : Prop := ∀ l, okL R C l → fit (lineR br bc l.1 l.2) (lineV R C W l.1 l.2) ≠ [] ∧ bestM (lineR br bc l.1 l.2) (lineV R C W l.1 l.2) = lineV R C W l.1 l.2
theorem news_nil {old new : Sg} (h : new.length = old.length) : newsM old new = [] ↔ new = old := by
  constructor
  · intro e
    apply List.ext_getElem?
    intro j
    by_cases hj : j < old.length
    · exact Classical.byContradiction fun z => by
        have := (newsM_mem old new (j, (new[j]?).getD none)).mpr ⟨hj, fun q => z q.symm, rfl⟩
        rw [e] at this; cases this
    · rw [List.getElem?_eq_none (by omega), List.getElem?_eq_none (by omega)]
  · rintro rfl
    refine List.eq_nil_iff_forall_not_mem.mpr fun p hp => ?_
    exact ((newsM_mem _ _ p).mp hp).2.1 rfl
theorem fx_iff {br bc : List (List Nat)} {R C : Nat} {W : Vw} : Fx br bc R C W ↔ ∀ l, okL R C l → fit (lineR br bc l.1 l.2) (lineV R C W l.1 l.2) ≠ [] ∧ newsM (lineV R C W l.1 l.2) (bestM (lineR br bc l.1 l.2) (lineV R C W l.1 l.2)) = [] := by
  constructor
  · intro h l ok
    exact ⟨(h l ok).1, (news_nil (bestM_len _ _)).mpr (h l ok).2⟩
  · intro h l ok
    exact ⟨(h l ok).1, (news_nil (bestM_len _ _)).mp (h l ok).2⟩
/-- a line step below a still view stays below -/
theorem step_le {br bc : List (List Nat)} {R C : Nat} {V W : Vw} (hF : Fx br bc R C W) (h : Le R C V W) {l : Bool × Nat} (ok : okL R C l) :
    fit (lineR br bc l.1 l.2) (lineV R C V l.1 l.2) ≠ [] ∧ ∀ V', (∀ r c, r < R → c < C → V' r c = if lin l.1 r c = l.2 then bestC (lineR br bc l.1 l.2) (lineV R C V l.1 l.2) (pos l.1 r c) else V r c) → Le R C V' W := by
  obtain ⟨ne, hb⟩ := hF l ok
  refine ⟨fun z => ?_, fun V' hV r c hr hc x hx => ?_⟩
  · obtain ⟨cs, hcs⟩ := List.exists_mem_of_ne_nil _ ne
    have := fit_le h ok _ hcs
    rw [z] at this; cases this
  · rw [hV r c hr hc] at hx
    by_cases h1 : lin l.1 r c = l.2
    · rw [if_pos h1] at hx
      have hp := pos_lt l.1 V hr hc
      rw [h1] at hp
      have e := best_le h ok _ ne hp hx
      have hp' := pos_lt l.1 W hr hc
      rw [h1] at hp'
      have g := bestM_get? (lineR br bc l.1 l.2) (lineV R C W l.1 l.2) hp'
      rw [hb, e] at g
      have g2 := lineV_get (V := W) (col := l.1) hr hc
      rw [h1, g] at g2
      exact (Option.some.inj g2).symm
    · rw [if_neg h1] at hx
      exact h r c hr hc x hx
/-- narrowing below a still view comes to its end below it -/
theorem run_le {br bc : List (List Nat)} {R C : Nat} {V W : Vw} (hF : Fx br bc R C W) (h : Le R C V W) (n : Nat) (hn : openN R C V + 2 ≤ n) : ∃ U st, runS br bc R C n (V, [], true) = .ok (U, st) ∧ Le R C U W := by
  have no := run_total (br := br) (bc := bc) (R := R) (C := C) n (V, [], true) (.inl hn)
  have er := run_ok (br := br) (bc := bc) (R := R) (C := C) (fun V => Le R C V W) (fun V hV l ok => (step_le hF hV ok).1)
    (fun l ok b b' hl hI => (step_le hF hI ok).2 _ fun r c hr hc => lineS_cell hl hr hc) n (V, [], true) h
  cases q : runS br bc R C n (V, [], true) with
  | no => exact absurd q no
  | er c => exact absurd q (er c)
  | ok p =>
    obtain ⟨U, st⟩ := p
    exact ⟨U, st, rfl, run_inv (fun V _ => Le R C V W) (fun l ok b b' hl hI => (step_le hF hI ok).2 _ fun r c hr hc => lineS_cell hl hr hc) n _ U st q h⟩
theorem run_keep {br bc : List (List Nat)} {R C : Nat} {V U : Vw} {st : List Stp} {n : Nat} (q : runS br bc R C n (V, [], true) = .ok (U, st)) : Le R C V U :=
  run_inv (fun W _ => Le R C V W) (fun l ok b b' hl hI => hI.trans fun r c hr hc x hx => lineS_keep hl hr hc hx) n _ U st q (Le.refl R C V)
theorem run_fx {br bc : List (List Nat)} {R C : Nat} {V U : Vw} {st : List Stp} {n : Nat} (q : runS br bc R C n (V, [], true) = .ok (U, st)) : Fx br bc R C U :=
  fx_iff.mpr (run_end n _ U st q rfl)
/-- any other still end above the view is the same -/
theorem end_same {br bc : List (List Nat)} {R C : Nat} {V W : Vw} (hF : Fx br bc R C W) (h : Le R C V W) (hm : ∀ U, Fx br bc R C U → Le R C V U → Le R C W U) (n : Nat) (hn : openN R C V + 2 ≤ n) : ∃ U st, runS br bc R C n (V, [], true) = .ok (U, st) ∧ ∀ r c, r < R → c < C → U r c = W r c := by
  obtain ⟨U, st, q, hl⟩ := run_le hF h n hn
  exact ⟨U, st, q, hl.anti (hm U (run_fx q) (run_keep q))⟩
theorem vT_congr {R C : Nat} {U W : Vw} (h : ∀ r c, r < R → c < C → U r c = W r c) : vT R C U = vT R C W := by
  unfold vT lnR
  apply List.map_congr_left
  intro r hr
  apply List.map_congr_left
  intro c hc
  exact h r c (List.mem_range.mp hr) (List.mem_range.mp hc)
/-! ### turned -/
def trV (V : Vw) : Vw := fun r c => V c r
theorem lineV_tr {R C : Nat} (V : Vw) (col : Bool) (i : Nat) : lineV C R (trV V) col i = lineV R C V (!col) i := by cases col <;> rfl
theorem lineR_tr (br bc : List (List Nat)) (col : Bool) (i : Nat) : lineR bc br col i = lineR br bc (!col) i := by cases col <;> rfl
theorem okL_tr {R C : Nat} {l : Bool × Nat} (h : okL C R l) : okL R C (!l.1, l.2) := by
  obtain ⟨col, i⟩ := l
  cases col <;> exact h
theorem fx_tr {br bc : List (List Nat)} {R C : Nat} {W : Vw} (h : Fx br bc R C W) : Fx bc br C R (trV W) := fun l ok => by
  have := h (!l.1, l.2) (okL_tr ok)
  rw [lineV_tr, lineR_tr]
  exact this
theorem le_tr {R C : Nat} {V W : Vw} (h : Le R C V W) : Le C R (trV V) (trV W) := fun r c hr hc x hx => h c r hc hr x hx
/-- narrowing turned about -/
theorem run_tr {br bc : List (List Nat)} {R C : Nat} {V : Vw} (n : Nat) (hn : R * C + 2 ≤ n) :
    match runS br bc R C n (V, [], true) with
    | .ok (U, st) => ∃ U' st', runS bc br C R n (trV V, [], true) = .ok (U', st') ∧ ∀ r c, r < C → c < R → U' r c = trV U r c
    | .er _ => ∃ c, runS bc br C R n (trV V, [], true) = .er c
    | .no => False := by
  have ho : openN R C V + 2 ≤ n := by have := open_le R C V; omega
  have ho' : openN C R (trV V) + 2 ≤ n := by
    have := open_le C R (trV V)
    have e : C * R = R * C := Nat.mul_comm C R
    omega
  have no := run_total (br := br) (bc := bc) (R := R) (C := C) n (V, [], true) (.inl ho)
  have no' := run_total (br := bc) (bc := br) (R := C) (C := R) n (trV V, [], true) (.inl ho')
  cases q : runS br bc R C n (V, [], true) with
  | no => exact absurd q no
  | ok p =>
    obtain ⟨U, st⟩ := p
    obtain ⟨U', st', q', hl⟩ := run_le (fx_tr (run_fx q)) (le_tr (run_keep q)) n ho'
    refine ⟨U', st', q', hl.anti ?_⟩
    obtain ⟨U2, st2, q2, hl2⟩ := run_le (W := trV U') (fx_tr (run_fx q')) (le_tr (V := trV V) (run_keep q')) n ho
    have e : runS br bc R C n (V, [], true) = .ok (U2, st2) := q2
    rw [q] at e
    have e := Rs.ok.inj e
    cases e
    exact le_tr (W := trV U') hl2
  | er c =>
    cases q' : runS bc br C R n (trV V, [], true) with
    | no => exact absurd q' no'
    | er c' => exact ⟨c', rfl⟩
    | ok p =>
      obtain ⟨U', st'⟩ := p
      obtain ⟨U2, st2, q2, _⟩ := run_le (W := trV U') (fx_tr (run_fx q')) (le_tr (V := trV V) (run_keep q')) n ho
      have e : runS br bc R C n (V, [], true) = .ok (U2, st2) := q2
      rw [q] at e
      cases e
end RP
namespace RP
open PySem L2
def wS (br bc : List (List Nat)) (R C : Nat) (b : Vw × Nat) (l : Bool × Nat) : Option (Vw × Nat) := (lineS br bc R C (b.1, [], false) l).map fun b' => (b'.1, if b'.2.2 then b.2 else b.2 + 1)
section
variable {br bc : List (List Nat)} {R C : Nat}
theorem wS_some {b b' : Vw × Nat} {l : Bool × Nat} (h : wS br bc R C b l = some b') (ok : okL R C l) :
    fit (lineR br bc l.1 l.2) (lineV R C b.1 l.1 l.2) ≠ [] ∧ (VB R C b.1 → VB R C b'.1) ∧ Le R C b.1 b'.1 ∧ (∀ W, Fx br bc R C W → Le R C b.1 W → Le R C b'.1 W) ∧
    ((b'.2 = b.2 + 1 ∧ b'.1 = b.1 ∧ newsM (lineV R C b.1 l.1 l.2) (bestM (lineR br bc l.1 l.2) (lineV R C b.1 l.1 l.2)) = []) ∨ (b'.2 = b.2 ∧ openN R C b'.1 < openN R C b.1)) := by
  obtain ⟨c, hc, rfl⟩ := Option.map_eq_some_iff.mp h
  have hk : Le R C b.1 c.1 := fun r k hr hk x hx => lineS_keep hc hr hk hx
  refine ⟨(lineS_cases hc).1, fun vb => lineS_bits hc vb, hk, fun W hF hW => (step_le hF hW ok).2 _ fun r k hr hk => lineS_cell hc hr hk, ?_⟩
  obtain ⟨hf, ⟨hn, e⟩ | ⟨hn, e⟩⟩ := lineS_cases hc
  · subst e
    exact .inl ⟨rfl, rfl, hn⟩
  · have hl := lineS_lt hc ok hn
    subst e
    exact .inr ⟨rfl, hl⟩
theorem wS_none {b : Vw × Nat} {l : Bool × Nat} (h : wS br bc R C b l = none) (ok : okL R C l) (W : Vw) (hF : Fx br bc R C W) : ¬ Le R C b.1 W := fun hW => by
  have h := Option.map_eq_none_iff.mp h
  have := (step_le hF hW ok).1
  unfold lineS at h
  rw [if_neg this] at h
  split at h <;> cases h
theorem wfold : ∀ (L : List (Bool × Nat)) (b : Vw × Nat), (∀ l ∈ L, okL R C l) → match L.foldlM (wS br bc R C) b with
    | none => ∀ W, Fx br bc R C W → ¬ Le R C b.1 W
    | some b' => (VB R C b.1 → VB R C b'.1) ∧ Le R C b.1 b'.1 ∧ (∀ W, Fx br bc R C W → Le R C b.1 W → Le R C b'.1 W) ∧
      ((b'.2 = b.2 + L.length ∧ b'.1 = b.1 ∧ ∀ l ∈ L, fit (lineR br bc l.1 l.2) (lineV R C b.1 l.1 l.2) ≠ [] ∧ newsM (lineV R C b.1 l.1 l.2) (bestM (lineR br bc l.1 l.2) (lineV R C b.1 l.1 l.2)) = []) ∨ (b'.2 < b.2 + L.length ∧ openN R C b'.1 < openN R C b.1))
  | [], b, _ => ⟨fun h => h, Le.refl R C _, fun W _ h => h, .inl ⟨rfl, rfl, fun l hl => by cases hl⟩⟩
  | l :: L, b, ok => by
    have ok1 := ok l List.mem_cons_self
    rw [List.foldlM_cons]
    cases q : wS br bc R C b l with
    | none => exact wS_none q ok1
    | some b1 =>
      obtain ⟨a1, a2, a3, a4, a5⟩ := wS_some q ok1
      have ih := wfold L b1 fun l hl => ok l (List.mem_cons_of_mem _ hl)
      show match L.foldlM (wS br bc R C) b1 with
        | none => _
        | some b' => _
      cases q2 : L.foldlM (wS br bc R C) b1 with
      | none =>
        rw [q2] at ih
        exact fun W hF hW => ih W hF (a4 W hF hW)
      | some b' =>
        rw [q2] at ih
        obtain ⟨c1, c2, c3, c4⟩ := ih
        refine ⟨fun h => c1 (a2 h), a3.trans c2, fun W hF hW => c3 W hF (a4 W hF hW), ?_⟩
        rw [List.length_cons]
        have hop : openN R C b'.1 ≤ openN R C b1.1 := c4.elim (fun z => by rw [z.2.1]; exact Nat.le_refl _) fun z => by omega
        rcases a5 with ⟨d1, d2, d3⟩ | ⟨d1, d2⟩
        · rw [d2] at c4 hop
          rcases c4 with ⟨f1, f2, f3⟩ | ⟨f1, f2⟩
          · refine .inl ⟨by omega, f2, fun l' hl => ?_⟩
            rcases List.mem_cons.mp hl with rfl | hl
            · exact ⟨a1, d3⟩
            · exact f3 l' hl
          · exact .inr ⟨by omega, f2⟩
        · refine .inr ⟨?_, by omega⟩
          rcases c4 with ⟨f1, _⟩ | ⟨f1, _⟩ <;> omega
end
end RP
namespace RP
open PySem L2
/-- a picture that fits -/
def Sol (br bc : List (List Nat)) (R C : Nat) (W : Vw) : Prop := (∀ r c, r < R → c < C → W r c = some 0 ∨ W r c = some 1) ∧ ∀ l, okL R C l → fit (lineR br bc l.1 l.2) (lineV R C W l.1 l.2) ≠ []
def Ne (R C : Nat) (U W : Vw) : Prop := ∃ r c, r < R ∧ c < C ∧ U r c ≠ W r c
def Eqv (R C : Nat) (U W : Vw) : Prop := ∀ r c, r < R → c < C → U r c = W r c
section
variable {br bc : List (List Nat)} {R C : Nat}
theorem sol_fit {V W : Vw} (h : Sol br bc R C W) (hl : Le R C V W) {l : Bool × Nat} (ok : okL R C l) : fit (lineR br bc l.1 l.2) (lineV R C V l.1 l.2) ≠ [] := fun z => by
  obtain ⟨cs, hcs⟩ := List.exists_mem_of_ne_nil _ (h.2 l ok)
  have := fit_le hl ok _ hcs
  rw [z] at this; cases this
theorem le_full {V W : Vw} (hv : ∀ r c, r < R → c < C → V r c ≠ none) (h : Le R C V W) : Eqv R C V W := fun r c hr hc => by
  cases q : V r c with
  | none => exact absurd q (hv r c hr hc)
  | some x => exact (h r c hr hc x q).symm
theorem le_up {V W : Vw} {r a : Nat} (h : Le R C V W) {k : Int} (hw : W r a = some k) : Le R C (upV V r a (some k)) W := fun i j hi hj x hx => by
  unfold upV at hx
  split at hx
  · rename_i q
    rw [q.1, q.2, hw]; exact hx
  · exact h i j hi hj x hx
theorem up_le {V W : Vw} {r a : Nat} (hn : V r a = none) {o : Option Int} (h : Le R C (upV V r a o) W) : Le R C V W := fun i j hi hj x hx => by
  refine h i j hi hj x ?_
  unfold upV
  split
  · rename_i q
    rw [q.1, q.2, hn] at hx; cases hx
  · exact hx
theorem up_at {V W : Vw} {r a : Nat} (hr : r < R) (ha : a < C) {k : Int} (h : Le R C (upV V r a (some k)) W) : W r a = some k := h r a hr ha k (by unfold upV; rw [if_pos ⟨rfl, rfl⟩])
theorem up_bits {V : Vw} (vb : VB R C V) {r a : Nat} {k : Int} (hk : k = 0 ∨ k = 1) : VB R C (upV V r a (some k)) := fun i j hi hj => by
  unfold upV
  split
  · rcases hk with rfl | rfl <;> simp
  · exact vb i j hi hj
theorem up_open {V : Vw} {r a : Nat} (hr : r < R) (ha : a < C) (hn : V r a = none) (k : Int) : openN R C (upV V r a (some k)) < openN R C V := by
  refine filter_lt _ (fun p hp hq => ?_) ⟨(r, a), cellsL_mem.mpr ⟨hr, ha⟩, by show (V r a == none) = true; rw [hn]; rfl, by show (upV V r a (some k) r a == none) = false; unfold upV; rw [if_pos ⟨rfl, rfl⟩]; rfl⟩
  unfold upV at hq
  split at hq
  · cases hq
  · exact hq
/-- what a walk answers -/
def WkOk (br bc : List (List Nat)) (R C : Nat) (V : Vw) (pics L : List Vw) : Prop :=
  (∀ W ∈ L, Sol br bc R C W ∧ Le R C V W) ∧ L.Pairwise (Ne R C) ∧ (pics ++ L).length ≤ 2 ∧ ((pics ++ L).length < 2 → ∀ W, Sol br bc R C W → Le R C V W → ∃ U ∈ L, Eqv R C U W)
theorem wk_shut {V : Vw} {pics : List Vw} (hp : pics.length < 2) {l : Bool × Nat} (ok : okL R C l) (h : fit (lineR br bc l.1 l.2) (lineV R C V l.1 l.2) = []) : WkOk br bc R C V pics [] :=
  ⟨fun W h => (by cases h), List.Pairwise.nil, by rw [List.append_nil]; omega, fun _ W hs hl => absurd h (sol_fit hs hl ok)⟩
theorem wk_full {V : Vw} {pics : List Vw} (vb : VB R C V) (hp : pics.length < 2) (hf : ∀ l, okL R C l → fit (lineR br bc l.1 l.2) (lineV R C V l.1 l.2) ≠ []) (hv : ∀ r c, r < R → c < C → V r c ≠ none) : WkOk br bc R C V pics [V] :=
  ⟨fun W h => by
    rw [List.mem_singleton.mp h]
    exact ⟨⟨fun r c hr hc => (vb r c hr hc).elim (fun z => absurd z (hv r c hr hc)) id, hf⟩, Le.refl R C V⟩, List.pairwise_singleton _ _, by rw [List.length_append, List.length_singleton]; omega, fun _ W hs hl => ⟨V, List.mem_singleton.mpr rfl, le_full hv hl⟩⟩
theorem wk_two {V : Vw} {pics L0 L1 : List Vw} {r a : Nat} (hr : r < R) (ha : a < C) (hn : V r a = none) (h0 : WkOk br bc R C (upV V r a (some 0)) pics L0) (h1 : WkOk br bc R C (upV V r a (some 1)) (pics ++ L0) L1) : WkOk br bc R C V pics (L0 ++ L1) := by
  obtain ⟨a1, a2, a3, a4⟩ := h0
  obtain ⟨b1, b2, b3, b4⟩ := h1
  rw [List.append_assoc] at b3 b4
  refine ⟨fun W h => ?_, List.pairwise_append.mpr ⟨a2, b2, fun U hU W hW => ⟨r, a, hr, ha, ?_⟩⟩, b3, fun hl W hs hW => ?_⟩
  · rcases List.mem_append.mp h with z | z
    · exact ⟨(a1 W z).1, up_le hn (a1 W z).2⟩
    · exact ⟨(b1 W z).1, up_le hn (b1 W z).2⟩
  · rw [up_at hr ha (a1 U hU).2, up_at hr ha (b1 W hW).2]
    intro z; cases z
  · rcases hs.1 r a hr ha with z | z
    · obtain ⟨U, hU, e⟩ := a4 (by rw [List.length_append] at hl ⊢; rw [List.length_append] at hl; omega) W hs (le_up hW z)
      exact ⟨U, List.mem_append_left _ hU, e⟩
    · obtain ⟨U, hU, e⟩ := b4 hl W hs (le_up hW z)
      exact ⟨U, List.mem_append_right _ hU, e⟩
theorem wk_one {V : Vw} {pics L0 : List Vw} {r a : Nat} (hr : r < R) (ha : a < C) (hn : V r a = none) (h0 : WkOk br bc R C (upV V r a (some 0)) pics L0) (hl : ¬ (pics ++ L0).length < 2) : WkOk br bc R C V pics L0 :=
  ⟨fun W h => ⟨(h0.1 W h).1, up_le hn (h0.1 W h).2⟩, h0.2.1, h0.2.2.1, fun z => absurd z hl⟩
end
/-- a loop that may end early, with something good -/
theorem forL_or {α : Type} {T : Tg} {body : DenS} {src : α → Tr} (I : List α → En → Prop) (P : SR → Prop) (hP : ∀ r k, P r → loopR r k = r) : ∀ (xs dn : List α) (en : En), I dn en →
    (∀ dn a en, a ∈ xs → I dn en → ∃ en1, T (src a) en = some en1 ∧ ((∃ en2, body en1 = .nx en2 ∧ I (dn ++ [a]) en2) ∨ P (body en1))) → (∃ en', forL T body (xs.map src) en = .nx en' ∧ I (dn ++ xs) en') ∨ P (forL T body (xs.map src) en)
  | [], dn, en, h, _ => .inl ⟨en, rfl, by rw [List.append_nil]; exact h⟩
  | a :: xs, dn, en, h, st => by
    obtain ⟨en1, h1, h2⟩ := st dn a en List.mem_cons_self h
    have e : forL T body ((a :: xs).map src) en = loopR (body en1) (forL T body (xs.map src)) := by
      rw [List.map_cons, forL, h1]
    rw [e]
    rcases h2 with ⟨en2, h2, h3⟩ | h2
    · rw [h2, loopR_nx]
      have := forL_or I P hP xs (dn ++ [a]) en2 h3 fun dn b en hb hi => st dn b en (List.mem_cons_of_mem _ hb) hi
      rw [List.append_assoc] at this
      exact this
    · rw [hP _ _ h2]
      exact .inr h2
def shutD (l : Bool × Nat) : PyData := .tuple [.str "shut", sdD l.1, .int (l.2 : Int)]
/-- a tree that shows which pictures a view leaves -/
inductive Tw (br bc : List (List Nat)) (R C : Nat) : Vw → PyData → List Vw → Prop
  | pic {V : Vw} (h : Sol br bc R C V) : Tw br bc R C V (.tuple [.str "picture"]) [V]
  | shut {V : Vw} {l : Bool × Nat} (ok : okL R C l) (h : fit (lineR br bc l.1 l.2) (lineV R C V l.1 l.2) = []) : Tw br bc R C V (shutD l) []
  | tr {V : Vw} {r a : Nat} {t0 t1 : PyData} {L0 L1 : List Vw} (hr : r < R) (ha : a < C) (hn : V r a = none) (h0 : Tw br bc R C (upV V r a (some 0)) t0 L0) (h1 : Tw br bc R C (upV V r a (some 1)) t1 L1) : Tw br bc R C V (.tuple [.str "try", .int (r : Int), .int (a : Int), t0, t1]) (L0 ++ L1)
theorem sclTs_map {α : Type} (f : α → Tr) (xs : List α) (h : ∀ x ∈ xs, sclT (f x) = true) : sclTs (xs.map f) = true := by
  induction xs with
  | nil => rfl
  | cons x xs ih =>
    show (sclT (f x) && sclTs (xs.map f)) = true
    rw [h x List.mem_cons_self, ih fun y hy => h y (List.mem_cons_of_mem _ hy)]; rfl
theorem scl_OV (R C : Nat) (V : Vw) : sclT (OV R C V) = true := sclTs_map _ _ fun s _ => sclTs_map _ _ fun c _ => by cases c <;> rfl
theorem data_OV (R C : Nat) (V : Vw) : data (OV R C V) = some (LV R C V) := by
  show (datas ((vT R C V).map fun s => .ol (s.map fun c => .d (cD c)))).map PyData.list = _
  rw [datas_OVs]; rfl
theorem clean_OV (R C : Nat) (V : Vw) : clean (OV R C V) = true := cleans_OVs _
theorem e_callw {dSh dNx dWt : Den} {n a i j : Nat} {fa : En → Rs Tr} {en : En} {ta t : Tr} {ts ts' : List Tr} {bd tree : PyData} (h1 : en[a]? = some (some ta)) (h2 : en[i]? = some (some (.ol ts))) (h3 : data ta = some bd) (h4 : lf bd = true) (h5 : sclTs ts = true) (h6 : j < en.length) (h7 : j ≠ i) (h8 : fa en = .ok t) (h9 : sclT t = true) (h10 : walkD dSh dNx dWt bd n t ts = some (tree, ts')) :
    dCallW dSh dNx dWt n a i j fa en = .nx ((en.set i (some (.ol ts'))).set j (some (.d tree))) := by
  unfold dCallW
  rw [h1, h2]
  simp only [h3]
  rw [if_pos (by rw [h4, h5, decide_eq_true h6, decide_eq_true h7]; rfl), h8, onR_ok, if_pos h9, h10]
end RP
namespace RP
open PySem L2
def freeL (C : Nat) : Sg := List.replicate C none
theorem agr_free (C : Nat) (cs : List Int) (h : cs.length = C) : agr (freeL C) cs = true := (agr_iff _ _ (by unfold freeL; rw [List.length_replicate]; exact h)).mpr fun i hi => by
  unfold freeL at hi ⊢
  rw [List.length_replicate] at hi
  rw [List.getElem?_replicate, if_pos hi]
  exact .inl rfl
theorem fit_free {rs : List Nat} {C : Nat} {cs : List Int} : cs ∈ fit rs (freeL C) ↔ cs.length = C ∧ (∀ c ∈ cs, c = 0 ∨ c = 1) ∧ rn 0 cs = rs := by
  rw [fit_mem]
  have hl : (freeL C).length = C := List.length_replicate
  rw [hl]
  constructor
  · rintro ⟨h1, h2, _, h4⟩; exact ⟨h1, h2, h4⟩
  · rintro ⟨h1, h2, h4⟩; exact ⟨h1, h2, agr_free C cs h1, h4⟩
theorem fit_some {rs : List Nat} {cs : List Int} : fit rs (cs.map some) ≠ [] ↔ (∀ c ∈ cs, c = 0 ∨ c = 1) ∧ rn 0 cs = rs := by
  constructor
  · intro h
    obtain ⟨ds, hd⟩ := List.exists_mem_of_ne_nil _ h
    obtain ⟨h1, h2, h3, h4⟩ := (fit_mem _ _ _).mp hd
    rw [List.length_map] at h1
    have e : ds = cs := by
      apply List.ext_getElem?
      intro i
      by_cases hi : i < cs.length
      · have := (agr_iff _ _ (by rw [List.length_map]; exact h1)).mp h3 i (by rw [List.length_map]; exact hi)
        rw [List.getElem?_map, List.getElem?_eq_getElem hi, List.getElem?_eq_getElem (show i < ds.length by omega)] at this
        rcases this with z | z
        · cases z
        · rw [List.getElem?_eq_getElem hi, List.getElem?_eq_getElem (show i < ds.length by omega)]
          exact (Option.some.inj z).symm
      · rw [List.getElem?_eq_none (by omega), List.getElem?_eq_none (by omega)]
    subst e
    exact ⟨h2, h4⟩
  · rintro ⟨h1, h2⟩ z
    have : cs ∈ fit rs (cs.map some) := (fit_mem _ _ _).mpr ⟨by rw [List.length_map], h1, (agr_iff _ _ (by rw [List.length_map])).mpr fun i hi => by
      rw [List.length_map] at hi
      rw [List.getElem?_map, List.getElem?_eq_getElem hi]
      exact .inr rfl, h2⟩
    rw [z] at this; cases this
/-! ### all products -/
def stP (C : Nat) (F : List (List (List Int))) (rs : List Nat) : List (List (List Int)) := F.flatMap fun rows => (fit rs (freeL C)).map fun line => rows ++ [line]
def prodP (C : Nat) (br : List (List Nat)) : List (List (List Int)) := br.foldl (stP C) [[]]
def rowsOk (C : Nat) : List (List Int) → List (List Nat) → Prop
  | [], [] => True
  | x :: xs, r :: rs => x ∈ fit r (freeL C) ∧ rowsOk C xs rs
  | _, _ => False
theorem foldP_mem (C : Nat) (p : List (List Int)) : ∀ (br : List (List Nat)) (F : List (List (List Int))), p ∈ br.foldl (stP C) F ↔ ∃ q ∈ F, ∃ t, p = q ++ t ∧ rowsOk C t br
  | [], F => by
    constructor
    · intro h; exact ⟨p, h, [], (List.append_nil p).symm, trivial⟩
    · rintro ⟨q, hq, t, rfl, h⟩
      cases t with
      | nil => rw [List.append_nil]; exact hq
      | cons x xs => exact h.elim
  | rs :: br, F => by
    rw [List.foldl_cons, foldP_mem C p br]
    constructor
    · rintro ⟨q, hq, t, rfl, h⟩
      obtain ⟨rows, hr, hq⟩ := List.mem_flatMap.mp hq
      obtain ⟨line, hl, rfl⟩ := List.mem_map.mp hq
      exact ⟨rows, hr, line :: t, by rw [List.append_assoc]; rfl, hl, h⟩
    · rintro ⟨q, hq, t, rfl, h⟩
      cases t with
      | nil => exact h.elim
      | cons x xs =>
        obtain ⟨h1, h2⟩ := h
        exact ⟨q ++ [x], List.mem_flatMap.mpr ⟨q, hq, List.mem_map.mpr ⟨x, h1, rfl⟩⟩, xs, by rw [List.append_assoc]; rfl, h2⟩
theorem prodP_mem {C : Nat} {p : List (List Int)} {br : List (List Nat)} : p ∈ prodP C br ↔ rowsOk C p br := by
  unfold prodP
  rw [foldP_mem]
  constructor
  · rintro ⟨q, hq, t, rfl, h⟩
    rw [List.mem_singleton.mp hq]; exact h
  · intro h; exact ⟨[], List.mem_singleton.mpr rfl, p, rfl, h⟩
theorem stP_nodup {C : Nat} {F : List (List (List Int))} (h : F.Nodup) (rs : List Nat) : (stP C F rs).Nodup := by
  unfold stP List.Nodup
  rw [List.pairwise_flatMap]
  refine ⟨fun rows _ => List.Pairwise.map _ (fun a b hab z => hab ?_) (fit_nodup rs (freeL C)), List.Pairwise.imp (fun {a b} hab x hx y hy z => hab ?_) h⟩
  · have := (List.append_inj' z rfl).2
    simpa using this
  · obtain ⟨l, _, rfl⟩ := List.mem_map.mp hx
    obtain ⟨m, _, rfl⟩ := List.mem_map.mp hy
    exact (List.append_inj' z rfl).1
theorem prodP_nodup (C : Nat) (br : List (List Nat)) : (prodP C br).Nodup := by
  unfold prodP
  have : ∀ (br : List (List Nat)) (F : List (List (List Int))), F.Nodup → (br.foldl (stP C) F).Nodup := by
    intro br
    induction br with
    | nil => intro F h; exact h
    | cons rs br ih => intro F h; exact ih _ (stP_nodup h rs)
  exact this br [[]] (List.pairwise_singleton _ _)
theorem stP_len (C : Nat) (F : List (List (List Int))) (rs : List Nat) : (stP C F rs).length = F.length * (fit rs (freeL C)).length := by
  unfold stP
  rw [List.length_flatMap]
  simp only [List.length_map]
  rw [List.map_const', List.sum_replicate_nat]
theorem fit_le8 {C : Nat} (h : C ≤ 3) (rs : List Nat) : (fit rs (freeL C)).length ≤ 8 := by
  have h1 : (fit rs (freeL C)).length ≤ (everyM C).length := by
    rw [fit_def]
    have hl : (freeL C).length = C := List.length_replicate
    rw [hl]
    exact List.length_filter_le _ _
  rw [every_len] at h1
  have : 2 ^ C ≤ 2 ^ 3 := Nat.pow_le_pow_right (by decide) h
  omega
theorem rowsOk_len {C : Nat} : ∀ {p : List (List Int)} {br : List (List Nat)}, rowsOk C p br → p.length = br.length
  | [], [], _ => rfl
  | x :: xs, r :: rs, h => by rw [List.length_cons, List.length_cons, rowsOk_len h.2]
  | [], _ :: _, h => h.elim
  | _ :: _, [], h => h.elim
theorem rowsOk_get {C : Nat} : ∀ {p : List (List Int)} {br : List (List Nat)}, rowsOk C p br ↔ p.length = br.length ∧ ∀ (i : Nat) (x : List Int) (rs : List Nat), p[i]? = some x → br[i]? = some rs → x ∈ fit rs (freeL C)
  | [], [] => ⟨fun _ => ⟨rfl, fun i x rs h => by cases h⟩, fun _ => trivial⟩
  | x :: xs, r :: rs => by
    constructor
    · rintro ⟨h1, h2⟩
      obtain ⟨h3, h4⟩ := rowsOk_get.mp h2
      refine ⟨by rw [List.length_cons, List.length_cons, h3], fun i y ss hy hs => ?_⟩
      cases i with
      | zero => cases hy; cases hs; exact h1
      | succ i => exact h4 i y ss hy hs
    · rintro ⟨h1, h2⟩
      exact ⟨h2 0 x r rfl rfl, rowsOk_get.mpr ⟨by simpa using h1, fun i y ss hy hs => h2 (i + 1) y ss hy hs⟩⟩
  | [], _ :: _ => ⟨fun h => h.elim, fun h => by cases h.1⟩
  | _ :: _, [] => ⟨fun h => h.elim, fun h => by cases h.1⟩
/-! ### pictures and views -/
def pV (p : List (List Int)) : Vw := fun r c => (p[r]?).bind fun row => row[c]?
def toP (R C : Nat) (W : Vw) : List (List Int) := (List.range R).map fun r => (List.range C).map fun c => (W r c).getD 0
theorem toP_pic {R C : Nat} {W : Vw} (h : ∀ r c, r < R → c < C → W r c = some 0 ∨ W r c = some 1) : Pic R C (toP R C W) := by
  refine ⟨by simp [toP], fun r hr => ?_, fun r hr c hc => ?_⟩
  · obtain ⟨i, _, rfl⟩ := List.mem_map.mp hr
    simp
  · obtain ⟨i, hi, rfl⟩ := List.mem_map.mp hr
    obtain ⟨j, hj, rfl⟩ := List.mem_map.mp hc
    rcases h i j (List.mem_range.mp hi) (List.mem_range.mp hj) with z | z <;> rw [z] <;> simp
theorem toP_row {R C : Nat} {W : Vw} {i : Nat} (hi : i < R) : (toP R C W)[i]? = some ((List.range C).map fun c => (W i c).getD 0) := by
  unfold toP
  rw [List.getElem?_map, List.getElem?_range hi]; rfl
theorem lnR_some {R C : Nat} {W : Vw} (h : ∀ r c, r < R → c < C → W r c = some 0 ∨ W r c = some 1) {i : Nat} (hi : i < R) : lnR C W i = ((List.range C).map fun c => (W i c).getD 0).map some := by
  unfold lnR
  rw [List.map_map]
  apply List.map_congr_left
  intro c hc
  rcases h i c hi (List.mem_range.mp hc) with z | z <;> (show W i c = some ((W i c).getD 0); rw [z]; rfl)
theorem colM_toP {R C : Nat} {W : Vw} {c : Nat} (hc : c < C) : colM (toP R C W) c = (List.range R).map fun r => (W r c).getD 0 := by
  unfold colM toP
  rw [List.map_map]
  apply List.map_congr_left
  intro r _
  show (((List.range C).map fun c => (W r c).getD 0)[c]?).getD 0 = _
  rw [List.getElem?_map, List.getElem?_range hc]; rfl
theorem lnC_some {R C : Nat} {W : Vw} (h : ∀ r c, r < R → c < C → W r c = some 0 ∨ W r c = some 1) {c : Nat} (hc : c < C) : lnC R W c = (colM (toP R C W) c).map some := by
  rw [colM_toP hc]
  unfold lnC
  rw [List.map_map]
  apply List.map_congr_left
  intro r hr
  rcases h r c (List.mem_range.mp hr) hc with z | z <;> (show W r c = some ((W r c).getD 0); rw [z]; rfl)
theorem LV_toP {R C : Nat} {W : Vw} (h : ∀ r c, r < R → c < C → W r c = some 0 ∨ W r c = some 1) : LV R C W = LL (toP R C W) := by
  show PyData.list _ = PyData.list _
  congr 1
  unfold vT toP
  rw [List.map_map, List.map_map]
  apply List.map_congr_left
  intro r hr
  show PyData.list ((lnR C W r).map cD) = PyData.list _
  rw [lnR_some h (List.mem_range.mp hr), List.map_map, List.map_map, List.map_map]; rfl
theorem pV_toP {R C : Nat} {W : Vw} (h : ∀ r c, r < R → c < C → W r c = some 0 ∨ W r c = some 1) : Eqv R C (pV (toP R C W)) W := fun r c hr hc => by
  unfold pV
  rw [toP_row hr, Option.bind_some, List.getElem?_map, List.getElem?_range hc]
  rcases h r c hr hc with z | z <;> rw [z] <;> simp [z]
theorem pV_full {R C : Nat} {p : List (List Int)} (hp : Pic R C p) : ∀ r c, r < R → c < C → pV p r c = some 0 ∨ pV p r c = some 1 := fun r c hr hc => by
  have hr' : r < p.length := by rw [hp.len]; exact hr
  have hc' : c < p[r].length := by rw [hp.row _ (List.getElem_mem hr')]; exact hc
  unfold pV
  rw [List.getElem?_eq_getElem hr', Option.bind_some, List.getElem?_eq_getElem hc']
  rcases hp.bit _ (List.getElem_mem hr') _ (List.getElem_mem hc') with z | z <;> rw [z] <;> simp
theorem toP_pV {R C : Nat} {p : List (List Int)} (hp : Pic R C p) : toP R C (pV p) = p := by
  apply List.ext_getElem?
  intro i
  by_cases hi : i < R
  · have hi' : i < p.length := by rw [hp.len]; exact hi
    rw [toP_row hi, List.getElem?_eq_getElem hi']
    congr 1
    apply List.ext_getElem?
    intro j
    have hl := hp.row _ (List.getElem_mem hi')
    by_cases hj : j < C
    · have hj' : j < p[i].length := by omega
      rw [List.getElem?_map, List.getElem?_range hj, List.getElem?_eq_getElem hj']
      show some ((pV p i j).getD 0) = _
      unfold pV
      rw [List.getElem?_eq_getElem hi', Option.bind_some, List.getElem?_eq_getElem hj']; rfl
    · rw [List.getElem?_eq_none (by simp; omega), List.getElem?_eq_none (by omega)]
  · rw [List.getElem?_eq_none (by simp [toP]; omega), List.getElem?_eq_none (by rw [hp.len]; omega)]
theorem toP_congr {R C : Nat} {U W : Vw} (h : Eqv R C U W) : toP R C U = toP R C W := by
  unfold toP
  apply List.map_congr_left
  intro r hr
  apply List.map_congr_left
  intro c hc
  rw [h r c (List.mem_range.mp hr) (List.mem_range.mp hc)]
theorem toP_ne {R C : Nat} {U W : Vw} (hu : ∀ r c, r < R → c < C → U r c = some 0 ∨ U r c = some 1) (hw : ∀ r c, r < R → c < C → W r c = some 0 ∨ W r c = some 1) (h : Ne R C U W) : toP R C U ≠ toP R C W := fun z => by
  obtain ⟨r, c, hr, hc, hn⟩ := h
  apply hn
  rw [← pV_toP hu r c hr hc, ← pV_toP hw r c hr hc, z]
/-- the columns fit, too -/
def colsOk (C : Nat) (bc : List (List Nat)) (p : List (List Int)) : Bool := (List.range C).all fun c => decide (some (rn 0 (colM p c)) = bc[c]?)
def goodP (C : Nat) (br bc : List (List Nat)) : List (List (List Int)) := (prodP C br).filter (colsOk C bc)
theorem goodP_nodup (C : Nat) (br bc : List (List Nat)) : (goodP C br bc).Nodup := List.Pairwise.filter _ (prodP_nodup C br)
theorem rows_pic {C : Nat} {br : List (List Nat)} {p : List (List Int)} (h : rowsOk C p br) : Pic br.length C p := by
  obtain ⟨h1, h2⟩ := rowsOk_get.mp h
  have k : ∀ r ∈ p, r.length = C ∧ ∀ c ∈ r, c = 0 ∨ c = 1 := fun r hr => by
    obtain ⟨i, hi, rfl⟩ := List.mem_iff_getElem.mp hr
    have hb : i < br.length := by omega
    have := fit_free.mp (h2 i p[i] br[i] (List.getElem?_eq_getElem hi) (List.getElem?_eq_getElem hb))
    exact ⟨this.1, this.2.1⟩
  exact ⟨h1, fun r hr => (k r hr).1, fun r hr => (k r hr).2⟩
theorem goodP_pic {C : Nat} {br bc : List (List Nat)} {p : List (List Int)} (h : p ∈ goodP C br bc) : Pic br.length C p := rows_pic (prodP_mem.mp (List.mem_filter.mp h).1)
theorem goodP_sol {C : Nat} {br bc : List (List Nat)} (hbc : bc.length = C) {p : List (List Int)} (h : p ∈ goodP C br bc) : Sol br bc br.length C (pV p) := by
  have hp := goodP_pic h
  obtain ⟨h1, h2⟩ := List.mem_filter.mp h
  have h3 := rowsOk_get.mp (prodP_mem.mp h1)
  have hf := pV_full hp
  refine ⟨hf, fun l ok => ?_⟩
  obtain ⟨col, i⟩ := l
  cases col with
  | false =>
    have hi : i < br.length := ok
    have hi' : i < p.length := by rw [h3.1]; exact hi
    show fit (lineR br bc false i) (lnR C (pV p) i) ≠ []
    have e : (List.range C).map (fun c => (pV p i c).getD 0) = p[i] := by
      have := toP_row (C := C) (W := pV p) hi
      rw [toP_pV hp, List.getElem?_eq_getElem hi'] at this
      exact (Option.some.inj this).symm
    rw [lnR_some hf hi, e, fit_some]
    have hl : lineR br bc false i = br[i] := by show (br[i]?).getD [] = _; rw [List.getElem?_eq_getElem hi]; rfl
    have g := fit_free.mp (h3.2 i p[i] br[i] (List.getElem?_eq_getElem hi') (List.getElem?_eq_getElem hi))
    rw [hl]
    exact ⟨g.2.1, g.2.2⟩
  | true =>
    have hi : i < C := ok
    have hb : i < bc.length := by omega
    show fit (lineR br bc true i) (lnC br.length (pV p) i) ≠ []
    rw [lnC_some hf hi, toP_pV hp, fit_some]
    have hl : lineR br bc true i = bc[i] := by show (bc[i]?).getD [] = _; rw [List.getElem?_eq_getElem hb]; rfl
    have g := List.all_eq_true.mp h2 i (List.mem_range.mpr hi)
    rw [List.getElem?_eq_getElem hb] at g
    rw [hl]
    refine ⟨fun c hc => ?_, by simpa using g⟩
    obtain ⟨r, hr, rfl⟩ := List.mem_map.mp hc
    have hl := hp.row r hr
    rw [List.getElem?_eq_getElem (by omega)]
    exact hp.bit r hr _ (List.getElem_mem _)
theorem sol_good {C : Nat} {br bc : List (List Nat)} (hbc : bc.length = C) {W : Vw} (h : Sol br bc br.length C W) : toP br.length C W ∈ goodP C br bc := by
  obtain ⟨hf, hl⟩ := h
  refine List.mem_filter.mpr ⟨prodP_mem.mpr (rowsOk_get.mpr ⟨by simp [toP], fun i x rs hx hs => ?_⟩), List.all_eq_true.mpr fun c hc => ?_⟩
  · have hi := (List.getElem?_eq_some_iff.mp hs).1
    rw [toP_row hi] at hx
    cases hx
    have := hl (false, i) hi
    have hR : lineR br bc false i = rs := by show (br[i]?).getD [] = _; rw [hs]; rfl
    have this : fit (lineR br bc false i) (lnR C W i) ≠ [] := this
    rw [lnR_some hf hi, hR, fit_some] at this
    exact fit_free.mpr ⟨by simp, this.1, this.2⟩
  · have hc := List.mem_range.mp hc
    have hb : c < bc.length := by omega
    have := hl (true, c) hc
    have hR : lineR br bc true c = bc[c] := by show (bc[c]?).getD [] = _; rw [List.getElem?_eq_getElem hb]; rfl
    have this : fit (lineR br bc true c) (lnC br.length W c) ≠ [] := this
    rw [lnC_some hf hc, hR, fit_some] at this
    rw [List.getElem?_eq_getElem hb, this.2]
    simp
/-- one, several or none -/
theorem wk_good {C : Nat} {br bc : List (List Nat)} (hbc : bc.length = C) {L : List Vw} (h : WkOk br bc br.length C (fun _ _ => none) [] L) :
    (∀ W ∈ L, LV br.length C W = LL (toP br.length C W) ∧ toP br.length C W ∈ goodP C br bc) ∧ L.Pairwise (fun U W => toP br.length C U ≠ toP br.length C W) ∧ L.length ≤ 2 ∧ (L.length < 2 → ∀ p ∈ goodP C br bc, ∃ W ∈ L, toP br.length C W = p) := by
  obtain ⟨h1, h2, h3, h4⟩ := h
  refine ⟨fun W hW => ⟨LV_toP (h1 W hW).1.1, sol_good hbc (h1 W hW).1⟩, ?_, by simpa using h3, fun hl p hp => ?_⟩
  · exact List.Pairwise.imp_of_mem (fun {a b} ha hb hab => toP_ne (h1 a ha).1.1 (h1 b hb).1.1 hab) h2
  · obtain ⟨U, hU, e⟩ := h4 (by simpa using hl) (pV p) (goodP_sol hbc hp) fun r c _ _ x hx => by cases hx
    exact ⟨U, hU, by rw [toP_congr e, toP_pV (goodP_pic hp)]⟩
end RP
namespace RP
open PySem L2
theorem shk_RUs (n : Nat) (L : List (List Nat)) : shk (n + 2) (.tuple (L.map fun rs => RU rs)) = true := by
  show (L.map fun rs => RU rs).all (shk (n + 1)) = true
  rw [List.all_map, List.all_eq_true]
  intro x _
  exact shk_RU n x
theorem shk_BD (br bc : List (List Nat)) : shk 40 (BD br bc) = true := by
  show (shk 39 (.tuple (br.map fun rs => RU rs)) && (shk 39 (.tuple (bc.map fun rs => RU rs)) && true)) = true
  rw [shk_RUs 37 br, shk_RUs 37 bc]; rfl
theorem pln_BD (br bc : List (List Nat)) : pln (BD br bc) = true := by
  have h : ∀ L : List (List Nat), pln (.tuple (L.map fun rs => RU rs)) = true := fun L => plns_all _ L fun rs _ => pln_RU rs
  show (pln (.tuple (br.map fun rs => RU rs)) && (pln (.tuple (bc.map fun rs => RU rs)) && true)) = true
  rw [h br, h bc]; rfl
theorem BD_inj {br bc br' bc' : List (List Nat)} (h : BD br bc = BD br' bc') : br = br' ∧ bc = bc' := by
  have h := PyData.tuple.inj h
  have k : ∀ L M : List (List Nat), L.map (fun rs => RU rs) = M.map (fun rs => RU rs) → L = M := fun L M h => (List.map_inj_right fun x y hxy => RU_inj.mp (PyData.tuple.inj hxy)).mp h
  have h1 := (List.cons.inj h).1
  have h2 := (List.cons.inj (List.cons.inj h).2).1
  exact ⟨k _ _ (PyData.tuple.inj h1), k _ _ (PyData.tuple.inj h2)⟩
theorem gEq_BD (br bc br' bc' : List (List Nat)) : gEq [.d (BD br bc), .d (BD br' bc')] = some (.d (.bool (decide (br = br' ∧ bc = bc')))) :=
  gEq_data (x := BD br bc) (y := BD br' bc') rfl rfl (shk_BD _ _) (shk_BD _ _) (pln_BD _ _) (pln_BD _ _) (by
    rw [decide_eq_true_eq]
    constructor
    · rintro ⟨rfl, rfl⟩; rfl
    · exact BD_inj)
/-- a picture that fits has the board -/
theorem sol_board {C : Nat} {br bc : List (List Nat)} (hbc : bc.length = C) {W : Vw} (h : Sol br bc br.length C W) : brP (toP br.length C W) = br ∧ bcP (toP br.length C W) C = bc := by
  have hg := sol_good hbc h
  obtain ⟨h1, h2⟩ := List.mem_filter.mp hg
  have h3 := rowsOk_get.mp (prodP_mem.mp h1)
  generalize toP br.length C W = p at *
  constructor
  · apply List.ext_getElem?
    intro i
    unfold brP
    rw [List.getElem?_map]
    by_cases hi : i < br.length
    · have hi' : i < p.length := by omega
      rw [List.getElem?_eq_getElem hi, List.getElem?_eq_getElem hi']
      have := fit_free.mp (h3.2 i p[i] br[i] (List.getElem?_eq_getElem hi') (List.getElem?_eq_getElem hi))
      show some (rn 0 p[i]) = _
      rw [this.2.2]
    · rw [List.getElem?_eq_none (by omega), List.getElem?_eq_none (by omega)]; rfl
  · apply List.ext_getElem?
    intro i
    unfold bcP
    rw [List.getElem?_map]
    by_cases hi : i < C
    · rw [List.getElem?_range hi]
      have := List.all_eq_true.mp h2 i (List.mem_range.mpr hi)
      simpa using this
    · rw [List.getElem?_eq_none (by simp; omega), List.getElem?_eq_none (by omega)]; rfl
theorem pic_sol {R C : Nat} {p : List (List Int)} (hp : Pic R C p) : Sol (brP p) (bcP p C) R C (pV p) := by
  have hf := pV_full hp
  refine ⟨hf, fun l ok => ?_⟩
  obtain ⟨col, i⟩ := l
  cases col with
  | false =>
    have hi : i < R := ok
    have hi' : i < p.length := by rw [hp.len]; exact hi
    show fit (lineR (brP p) (bcP p C) false i) (lnR C (pV p) i) ≠ []
    have e : (List.range C).map (fun c => (pV p i c).getD 0) = p[i] := by
      have := toP_row (C := C) (W := pV p) hi
      rw [toP_pV hp, List.getElem?_eq_getElem hi'] at this
      exact (Option.some.inj this).symm
    rw [lnR_some hf hi, e, fit_some]
    refine ⟨hp.bit _ (List.getElem_mem hi'), ?_⟩
    show _ = ((brP p)[i]?).getD []
    unfold brP
    rw [List.getElem?_map, List.getElem?_eq_getElem hi']; rfl
  | true =>
    have hi : i < C := ok
    show fit (lineR (brP p) (bcP p C) true i) (lnC R (pV p) i) ≠ []
    rw [lnC_some hf hi, toP_pV hp, fit_some]
    refine ⟨fun c hc => ?_, ?_⟩
    · obtain ⟨r, hr, rfl⟩ := List.mem_map.mp hc
      have hl := hp.row r hr
      rw [List.getElem?_eq_getElem (by omega)]
      exact hp.bit r hr _ (List.getElem_mem _)
    · show _ = ((bcP p C)[i]?).getD []
      unfold bcP
      rw [List.getElem?_map, List.getElem?_range hi]; rfl
theorem tw_lf {br bc : List (List Nat)} {R C : Nat} {V : Vw} {t : PyData} {L : List Vw} (h : Tw br bc R C V t L) : lf t = true := by
  induction h with
  | pic h => rfl
  | shut ok h =>
    rename_i l
    obtain ⟨col, i⟩ := l
    cases col <;> rfl
  | tr hr ha hn h0 h1 i0 i1 =>
    rename_i t0 t1 L0 L1
    show (true && (true && (true && (lf t0 && (lf t1 && true))))) = true
    rw [i0, i1]; rfl
theorem gEq_str (a b : Str) (ha : PyData.strOk a = true) (hb : PyData.strOk b = true) : gEq [.d (.str a), .d (.str b)] = some (.d (.bool (decide (a = b)))) :=
  gEq_data (x := .str a) (y := .str b) rfl rfl ha hb rfl rfl (by
    rw [decide_eq_true_eq]
    exact ⟨fun h => by rw [h], fun h => PyData.str.inj h⟩)
theorem gNe_str (a b : Str) (ha : PyData.strOk a = true) (hb : PyData.strOk b = true) : gNe [.d (.str a), .d (.str b)] = some (.d (.bool (!decide (a = b)))) :=
  gNe_data (x := .str a) (y := .str b) rfl rfl ha hb rfl rfl (by
    rw [decide_eq_true_eq]
    exact ⟨fun h => by rw [h], fun h => PyData.str.inj h⟩)
theorem frz_of {t : Tr} {x : PyData} (c : clean t = true) (d : data t = some x) : frz t = .d x := by
  unfold frz
  rw [if_pos c, d]
end RP
namespace RP
open PySem L2
open SX (S)
abbrev splC (c : Nat) (t : List Nat) : List (List Nat) := _root_.TL.spl [c] 0 [] t
theorem spl_step (c d : Nat) (acc r : List Nat) : _root_.TL.spl [c] 0 acc (d :: r) = if _root_.TL.pre [c] (d :: r) = true then acc :: _root_.TL.spl [c] 0 [] r else _root_.TL.spl [c] 0 (acc ++ [d]) r := rfl
theorem spl_sub (c : Nat) : ∀ (t acc : List Nat), ∀ p ∈ _root_.TL.spl [c] 0 acc t, (∀ x ∈ p, x ∈ acc ∨ x ∈ t) ∧ p.length ≤ acc.length + t.length
  | [], acc, p, h => by
    rw [_root_.TL.spl_nil] at h
    rw [List.mem_singleton.mp h]
    exact ⟨fun x hx => .inl hx, by simp⟩
  | d :: r, acc, p, h => by
    rw [spl_step] at h
    split at h
    · rcases List.mem_cons.mp h with rfl | h
      · exact ⟨fun x hx => .inl hx, by simp⟩
      · obtain ⟨h1, h2⟩ := spl_sub c r [] p h
        refine ⟨fun x hx => (h1 x hx).elim (fun z => by cases z) fun z => .inr (List.mem_cons_of_mem _ z), ?_⟩
        simp at h2 ⊢; omega
    · obtain ⟨h1, h2⟩ := spl_sub c r (acc ++ [d]) p h
      refine ⟨fun x hx => (h1 x hx).elim (fun z => ?_) fun z => .inr (List.mem_cons_of_mem _ z), ?_⟩
      · rcases List.mem_append.mp z with z | z
        · exact .inl z
        · rw [List.mem_singleton.mp z]; exact .inr List.mem_cons_self
      · simp at h2 ⊢; omega
theorem spl_count (c : Nat) : ∀ (t acc : List Nat), 0 < (_root_.TL.spl [c] 0 acc t).length ∧ (_root_.TL.spl [c] 0 acc t).length ≤ t.length + 1
  | [], acc => by rw [_root_.TL.spl_nil]; simp
  | d :: r, acc => by
    rw [spl_step]
    split
    · have := spl_count c r []
      simp; omega
    · have := spl_count c r (acc ++ [d])
      simp; omega
theorem splC_ok {c : Nat} {t : List Nat} (h : ∀ x ∈ t, x < 128) {N : Nat} (hl : t.length ≤ N) : ∀ p ∈ splC c t, (∀ x ∈ p, x < 128) ∧ p.length ≤ N := fun p hp => by
  obtain ⟨h1, h2⟩ := spl_sub c t [] p hp
  exact ⟨fun x hx => (h1 x hx).elim (fun z => by cases z) (h x), by simp at h2; omega⟩
theorem gSplit_C {c : Nat} {t : List Nat} (hc : c < 256) (hl : t.length ≤ 9000) : gSplit [.d (SD t), .d (SD [c])] = some (.ol ((splC c t).map fun y => .d (SD y))) := gSplit_S t [c] (by simp) (by simp [hc]) (by omega)
/-! ### words -/
def digs (w : List Nat) : Bool := w.all fun c => decide (48 ≤ c ∧ c ≤ 57)
def valW (w : List Nat) : Nat := w.foldl (fun n c => 10 * n + (c - 48)) 0
def okW (w : List Nat) : Bool := digs w && decide (1 ≤ w.length ∧ w.length ≤ 3) && decide (w.head? ≠ some 48)
theorem okW_nL {w : List Nat} (h : okW w = true) : w = nL (valW w) ∧ 0 < valW w ∧ valW w < 1000 := by
  unfold okW digs at h
  simp only [Bool.and_eq_true, decide_eq_true_eq, List.all_eq_true] at h
  obtain ⟨⟨hd, hl⟩, h0⟩ := h
  match w, hl with
  | [a], _ =>
    have ha := hd a List.mem_cons_self
    have a0 : a ≠ 48 := fun z => h0 (by rw [z]; rfl)
    have e : valW [a] = a - 48 := by simp [valW]
    rw [e]
    refine ⟨?_, by omega, by omega⟩
    show [a] = _root_.TL.numL (a - 48)
    rw [_root_.TL.numL_lt (by omega)]
    congr 1; omega
  | [a, b], _ =>
    have ha := hd a List.mem_cons_self
    have hb := hd b (List.mem_cons_of_mem _ List.mem_cons_self)
    have a0 : a ≠ 48 := fun z => h0 (by rw [z]; rfl)
    have e : valW [a, b] = 10 * (a - 48) + (b - 48) := by simp [valW]
    rw [e]
    refine ⟨?_, by omega, by omega⟩
    show [a, b] = _root_.TL.numL _
    rw [_root_.TL.numL_step (by omega), _root_.TL.numL_lt (by omega)]
    show [a, b] = [_, _]
    congr 1
    · omega
    · congr 1; omega
  | [a, b, c], _ =>
    have ha := hd a List.mem_cons_self
    have hb := hd b (List.mem_cons_of_mem _ List.mem_cons_self)
    have hc := hd c (List.mem_cons_of_mem _ (List.mem_cons_of_mem _ List.mem_cons_self))
    have a0 : a ≠ 48 := fun z => h0 (by rw [z]; rfl)
    have e : valW [a, b, c] = 10 * (10 * (a - 48) + (b - 48)) + (c - 48) := by simp [valW]
    rw [e]
    refine ⟨?_, by omega, by omega⟩
    show [a, b, c] = _root_.TL.numL _
    rw [_root_.TL.numL_step (by omega), _root_.TL.numL_step (by omega), _root_.TL.numL_lt (by omega)]
    show [a, b, c] = [_, _, _]
    congr 1
    · omega
    · congr 1
      · omega
      · congr 1; omega
theorem nL_len3 {r : Nat} (h : r < 1000) : (nL r).length ≤ 3 := _root_.TL.numL_len (k := 3) (by omega) h
theorem gInt_n3 (n : Nat) (h : n < 1000) : gIntD [SD (nL n)] = some (.int (n : Int)) := by
  have h1 := nL_len3 h
  show (if (S (nL n)).length ≤ 640 then (PySem.intText? (S (nL n))).map PyData.int else none) = _
  rw [SX.S_len, if_pos (by omega), ← SX.num_S, _root_.TL.int_num (Nat.le_trans h1 (by omega))]
  rfl
def wordN (w : List Nat) : Option Nat := if okW w then some (valW w) else none
def mapO {α β : Type} (f : α → Option β) : List α → Option (List β)
  | [] => some []
  | x :: xs => (f x).bind fun y => (mapO f xs).map fun ys => y :: ys
theorem mapO_len {α β : Type} {f : α → Option β} : ∀ {xs : List α} {ys : List β}, mapO f xs = some ys → ys.length = xs.length
  | [], ys, h => by cases h; rfl
  | x :: xs, ys, h => by
    obtain ⟨y, _, h2⟩ := Option.bind_eq_some_iff.mp h
    obtain ⟨zs, h3, rfl⟩ := Option.map_eq_some_iff.mp h2
    rw [List.length_cons, List.length_cons, mapO_len h3]
theorem mapO_mem {α β : Type} {f : α → Option β} : ∀ {xs : List α} {ys : List β}, mapO f xs = some ys → ∀ y ∈ ys, ∃ x ∈ xs, f x = some y
  | [], ys, h, y, hy => by cases h; cases hy
  | x :: xs, ys, h, y, hy => by
    obtain ⟨z, h1, h2⟩ := Option.bind_eq_some_iff.mp h
    obtain ⟨zs, h3, rfl⟩ := Option.map_eq_some_iff.mp h2
    rcases List.mem_cons.mp hy with rfl | hy
    · exact ⟨x, List.mem_cons_self, h1⟩
    · obtain ⟨w, hw, e⟩ := mapO_mem h3 y hy
      exact ⟨w, List.mem_cons_of_mem _ hw, e⟩
theorem mapO_map {α β : Type} (f : α → Option β) : ∀ xs : List α, mapO f xs = none ↔ ∃ x ∈ xs, f x = none
  | [] => ⟨fun h => (by cases h), fun ⟨x, h, _⟩ => (by cases h)⟩
  | x :: xs => by
    show ((f x).bind fun y => (mapO f xs).map fun ys => y :: ys) = none ↔ _
    cases q : f x with
    | none => exact ⟨fun _ => ⟨x, List.mem_cons_self, q⟩, fun _ => rfl⟩
    | some y =>
      rw [Option.bind_some, Option.map_eq_none_iff, mapO_map f xs]
      constructor
      · rintro ⟨z, hz, e⟩; exact ⟨z, List.mem_cons_of_mem _ hz, e⟩
      · rintro ⟨z, hz, e⟩
        rcases List.mem_cons.mp hz with rfl | hz
        · rw [q] at e; cases e
        · exact ⟨z, hz, e⟩
def lineN (t : List Nat) : Option (List Nat) := if t = [48] then some [] else mapO wordN (splC 32 t)
def linesN (t : List Nat) : Option (List (List Nat)) := mapO lineN (splC 44 t)
def boardN (t : List Nat) : Option (List (List Nat) × List (List Nat)) := match splC 124 t with
  | [a, b] => (linesN a).bind fun r => (linesN b).map fun c => (r, c)
  | _ => none
def mR {β γ : Type} (c : Str) (k : β → γ) : Option β → Rs γ
  | some y => .ok (k y)
  | none => .er c
@[simp] theorem mR_some {β γ : Type} (c : Str) (k : β → γ) (y : β) : mR c k (some y) = .ok (k y) := rfl
@[simp] theorem mR_none {β γ : Type} (c : Str) (k : β → γ) : mR c k none = .er c := rfl
theorem compD_map {α β : Type} {T : Tg} {felt : En → Rs Tr} {en : En} {src : α → Tr} {f : α → Option β} {g : β → PyData} {c : Str} (hg : ∀ y, lf (g y) = true) : ∀ (xs : List α), (∀ x ∈ xs, ∃ en1, T (src x) en = some en1 ∧ felt en1 = mR c (fun y => .d (g y)) (f x)) →
    compD T felt en (xs.map src) = mR c (fun ys => ys.map g) (mapO f xs)
  | [], _ => rfl
  | x :: xs, h => by
    obtain ⟨en1, h1, h2⟩ := h x List.mem_cons_self
    have ih := compD_map (felt := felt) (en := en) (T := T) (src := src) (f := f) (c := c) hg xs fun y hy => h y (List.mem_cons_of_mem _ hy)
    rw [List.map_cons]
    unfold compD
    rw [h1]
    simp only [h2]
    show _ = mR c (fun ys => ys.map g) ((f x).bind fun y => (mapO f xs).map fun ys => y :: ys)
    cases q : f x with
    | none => rfl
    | some y =>
      simp only [mR, Rs.bind_ok', Option.bind_some]
      rw [if_pos (hg y), ih]
      cases mapO f xs <;> rfl
/-- what the lines hold -/
theorem lineN_pos {t : List Nat} {rs : List Nat} (h : lineN t = some rs) : ∀ r ∈ rs, 0 < r := fun r hr => by
  unfold lineN at h
  split at h
  · cases h; cases hr
  · obtain ⟨w, _, e⟩ := mapO_mem h r hr
    unfold wordN at e
    split at e
    · rename_i ok
      cases e
      exact (okW_nL ok).2.1
    · cases e
theorem lineN_len {t : List Nat} {rs : List Nat} (h : lineN t = some rs) : rs.length ≤ t.length + 1 := by
  unfold lineN at h
  split at h
  · cases h; simp
  · rw [mapO_len h]
    exact (spl_count 32 t []).2
/-! ### boards -/
def zL (r : List (List Nat)) : List (List Int) := r.map fun rs => rs.map fun n : Nat => (n : Int)
theorem TL_zL (r : List (List Nat)) : TL (zL r) = .tuple (r.map fun rs => RU rs) := by
  show PyData.tuple ((r.map fun rs => rs.map fun n : Nat => (n : Int)).map fun r => PyData.tuple (r.map .int)) = _
  rw [List.map_map]
  congr 1
  apply List.map_congr_left
  intro rs _
  show PyData.tuple _ = PyData.tuple _
  rw [List.map_map]; rfl
def wideN (size : Nat) (rs : List Nat) : Bool := decide (rs ≠ []) && decide (size < rs.sum + rs.length - 1)
theorem sum_z (rs : List Nat) : (rs.map fun n : Nat => (n : Int)).sum = (rs.sum : Nat) := by
  induction rs with
  | nil => rfl
  | cons x L ih => rw [List.map_cons, List.sum_cons, List.sum_cons, ih]; omega
def lnV : Option (List Nat) → PyData
  | some rs => RU rs
  | none => .none
theorem pln_lnV (o : Option (List Nat)) : pln (lnV o) = true := by
  cases o with
  | none => rfl
  | some rs => exact pln_RU rs
theorem shk_lnV (n : Nat) (o : Option (List Nat)) : shk (n + 1) (lnV o) = true := by
  cases o with
  | none => rfl
  | some rs => exact shk_RU n rs
theorem gIn_none {α : Type} (f : α → Option (List Nat)) (xs : List α) : gIn [.d .none, .d (.list (xs.map fun x => lnV (f x)))] = some (.d (.bool (decide (mapO f xs = none)))) := by
  have h2 : shk 40 (.list (xs.map fun x => lnV (f x))) = true := by
    show (xs.map fun x => lnV (f x)).all (shk 39) = true
    rw [List.all_map, List.all_eq_true]
    intro x _
    exact shk_lnV 38 _
  have h3 : (xs.map fun x => lnV (f x)).any (fun z => PyData.eqv z .none) = decide (mapO f xs = none) := by
    rw [List.any_map, Bool.eq_iff_iff, decide_eq_true_eq, List.any_eq_true, mapO_map]
    constructor
    · rintro ⟨x, hx, h⟩
      have h := (eqv_iff _ _ (pln_lnV (f x)) rfl).mp h
      refine ⟨x, hx, ?_⟩
      cases q : f x with
      | none => rfl
      | some rs => rw [q] at h; cases h
    · rintro ⟨x, hx, h⟩
      refine ⟨x, hx, ?_⟩
      show PyData.eqv (lnV (f x)) .none = true
      rw [h]
      exact (eqv_iff _ _ rfl rfl).mpr rfl
  simp only [gIn, gD_def, datas_cons, data_d, datas_nil, Option.map_some, Option.bind_some, gInD]
  rw [show shk 40 PyData.none = true from rfl, h2, h3]
  simp
theorem map_lnV {α : Type} {f : α → Option (List Nat)} : ∀ {xs : List α} {r : List (List Nat)}, mapO f xs = some r → xs.map (fun x => lnV (f x)) = r.map fun rs => RU rs
  | [], r, h => by cases h; rfl
  | x :: xs, r, h => by
    obtain ⟨y, h1, h2⟩ := Option.bind_eq_some_iff.mp h
    obtain ⟨ys, h3, rfl⟩ := Option.map_eq_some_iff.mp h2
    rw [List.map_cons, List.map_cons, map_lnV h3, h1]; rfl
theorem linesN_pos {t : List Nat} {r : List (List Nat)} (h : linesN t = some r) : ∀ rs ∈ r, ∀ n ∈ rs, 0 < n := fun rs hrs => by
  obtain ⟨x, _, e⟩ := mapO_mem h rs hrs
  exact lineN_pos e
theorem linesN_ne {t : List Nat} {r : List (List Nat)} (h : linesN t = some r) : 0 < r.length := by
  rw [mapO_len h]
  exact (spl_count 44 t []).1
theorem all_okW (xs : List (List Nat)) : (∀ w ∈ xs, okW w = true) → mapO wordN xs = some (xs.map valW) := by
  induction xs with
  | nil => intro _; rfl
  | cons x xs ih =>
    intro h
    show ((wordN x).bind fun y => (mapO wordN xs).map fun ys => y :: ys) = _
    rw [ih fun w hw => h w (List.mem_cons_of_mem _ hw)]
    unfold wordN
    rw [if_pos (h x List.mem_cons_self)]; rfl
end RP
namespace Rrunpaint_k14_read
open PySem PySem.Spec PyProof.Rows L2 RP
def topS (i : Nat) : Stmt := PySem.Challenge.pw_runpaint_k14_read.main.body.getD i (.Pass ⟨0, 0, 0, 0⟩)
abbrev s_checked : Stmt := topS 10
theorem sc_checked : FnScope ["lines", "size", "runs"] ["lines", "size"] (defScope s_checked) := ⟨rfl, rfl, rfl, by decide +kernel, rfl, by decide +kernel, by decide +kernel⟩
abbrev s_looked : Stmt := topS 11
theorem sc_looked : FnScope ["board", "lines", "runs", "run"] ["board"] (defScope s_looked) := ⟨rfl, rfl, rfl, by decide +kernel, rfl, by decide +kernel, by decide +kernel⟩
abbrev s_run_of : Stmt := topS 14
theorem sc_run_of : FnScope ["word", "sign"] ["word"] (defScope s_run_of) := ⟨rfl, rfl, rfl, by decide +kernel, rfl, by decide +kernel, by decide +kernel⟩
abbrev s_runs_read : Stmt := topS 15
theorem sc_runs_read : FnScope ["text", "word"] ["text"] (defScope s_runs_read) := ⟨rfl, rfl, rfl, by decide +kernel, rfl, by decide +kernel, by decide +kernel⟩
abbrev s_read : Stmt := topS 16
theorem sc_read : FnScope ["text", "parts", "rows", "board", "line"] ["text"] (defScope s_read) := ⟨rfl, rfl, rfl, by decide +kernel, rfl, by decide +kernel, by decide +kernel⟩
abbrev s_l_cell_at : Stmt := topS 18
theorem sc_l_cell_at : FnScope ["script", "k"] ["script", "k"] (defScope s_l_cell_at) := ⟨rfl, rfl, rfl, by decide +kernel, rfl, by decide +kernel, by decide +kernel⟩
abbrev s_l_whole : Stmt := topS 19
theorem sc_l_whole : FnScope ["x"] ["x"] (defScope s_l_whole) := ⟨rfl, rfl, rfl, by decide +kernel, rfl, by decide +kernel, by decide +kernel⟩
abbrev s_l_mix : Stmt := topS 20
theorem sc_l_mix : FnScope ["cell", "k", "mixed"] ["cell", "k"] (defScope s_l_mix) := ⟨rfl, rfl, rfl, by decide +kernel, rfl, by decide +kernel, by decide +kernel⟩
abbrev s_l_runs : Stmt := topS 21
theorem sc_l_runs : FnScope ["cells", "found", "count", "cell"] ["cells"] (defScope s_l_runs) := ⟨rfl, rfl, rfl, by decide +kernel, rfl, by decide +kernel, by decide +kernel⟩
abbrev s_l_picture : Stmt := topS 22
theorem sc_l_picture : FnScope ["cell", "rows", "columns", "dense", "found", "row", "line", "at", "drawn"] ["cell", "rows", "columns"] (defScope s_l_picture) := ⟨rfl, rfl, rfl, by decide +kernel, rfl, by decide +kernel, by decide +kernel⟩
abbrev s_l_column : Stmt := topS 23
theorem sc_l_column : FnScope ["rows", "at", "row"] ["rows", "at"] (defScope s_l_column) := ⟨rfl, rfl, rfl, by decide +kernel, rfl, by decide +kernel, by decide +kernel⟩
abbrev s_l_board : Stmt := topS 24
theorem sc_l_board : FnScope ["picture", "columns", "at", "row"] ["picture"] (defScope s_l_board) := ⟨rfl, rfl, rfl, by decide +kernel, rfl, by decide +kernel, by decide +kernel⟩
abbrev s_l_lines : Stmt := topS 25
theorem sc_l_lines : FnScope ["found", "due", "k", "run"] ["found", "due"] (defScope s_l_lines) := ⟨rfl, rfl, rfl, by decide +kernel, rfl, by decide +kernel, by decide +kernel⟩
abbrev s_l_text : Stmt := topS 26
theorem sc_l_text : FnScope ["board", "parts", "lines", "words", "runs", "word", "run"] ["board"] (defScope s_l_text) := ⟨rfl, rfl, rfl, by decide +kernel, rfl, by decide +kernel, by decide +kernel⟩
abbrev s_l_refused : Stmt := topS 27
theorem sc_l_refused : FnScope ["marks", "which", "k"] ["marks", "which"] (defScope s_l_refused) := ⟨rfl, rfl, rfl, by decide +kernel, rfl, by decide +kernel, by decide +kernel⟩
abbrev s_l_told : Stmt := topS 28
theorem sc_l_told : FnScope ["text", "found", "marks", "e"] ["text"] (defScope s_l_told) := ⟨rfl, rfl, rfl, by decide +kernel, rfl, by decide +kernel, by decide +kernel⟩
abbrev s_l_line_of : Stmt := topS 29
theorem sc_l_line_of : FnScope ["text", "found", "word", "sign"] ["text"] (defScope s_l_line_of) := ⟨rfl, rfl, rfl, by decide +kernel, rfl, by decide +kernel, by decide +kernel⟩
abbrev s_l_due : Stmt := topS 30
theorem sc_l_due : FnScope ["text", "parts", "rows", "columns", "runs", "line"] ["text"] (defScope s_l_due) := ⟨rfl, rfl, rfl, by decide +kernel, rfl, by decide +kernel, by decide +kernel⟩
abbrev s_l_odd : Stmt := topS 31
theorem sc_l_odd : FnScope ["cell"] ["cell"] (defScope s_l_odd) := ⟨rfl, rfl, rfl, by decide +kernel, rfl, by decide +kernel, by decide +kernel⟩
abbrev s_l_lined : Stmt := topS 32
theorem sc_l_lined : FnScope ["text", "cell", "other", "parts", "lines", "odd"] ["text", "cell", "other"] (defScope s_l_lined) := ⟨rfl, rfl, rfl, by decide +kernel, rfl, by decide +kernel, by decide +kernel⟩
abbrev s_law : Stmt := topS 33
theorem sc_law : FnScope ["script", "cell", "text", "way", "at", "put", "due", "told"] ["script"] (defScope s_law) := ⟨rfl, rfl, rfl, by decide +kernel, rfl, by decide +kernel, by decide +kernel⟩
def errL : List Str := ["BadRun", "NoNote", "TooMany", "Wide"]
/-! ### what each def does -/
def d_checked_b1 : DenS := (dIf (dB (dBin gGt (dBin gAdd (dUn (gD gSumD) (dVar 2)) (dBin gMax2 (dC (.int 0)) (dBin gSub (dUn gLen (dVar 2)) (dC (.int 1))))) (dVar 1)))
  (dRaise "Wide")
  dNext)
def d_checked : DenS := (dFor (dSrc false (dVar 0)) (tgN 2) d_checked_b1)
def D_checked : Den := dDef 2 3 d_checked
def d_looked_b1 : DenS := (dIf (dNotT (dB (dChain (fun i j => decide (i ≤ j)) (fun i j => decide (i ≤ j)) (dC (.int 1)) (dUn gLen (dVar 1)) (dC (.int 12)))))
  (dRaise "TooMany")
  dNext)
def d_looked_b2 : DenS := (dIf (dB (dBin gLt (dVar 3) (dC (.int 1))))
  (dRaise "BadRun")
  dNext)
def d_looked_b3 : DenS := (dFor (dSrc false (dVar 2)) (tgN 3) d_looked_b2)
def d_looked_b4 : DenS := (dFor (dSrc false (dVar 1)) (tgN 2) d_looked_b3)
def d_looked : DenS := (dSeq (dFor (dSrc false (dVar 0)) (tgN 1) d_looked_b1)
  (dSeq (dFor (dSrc false (dVar 0)) (tgN 1) d_looked_b4)
  (dSeq (dDrop (dCall D_checked (dCons (dBin gIdx (dVar 0) (dC (.int 0))) (dCons (dUn gLen (dBin gIdx (dVar 0) (dC (.int 1)))) dNil))))
  (dSeq (dDrop (dCall D_checked (dCons (dBin gIdx (dVar 0) (dC (.int 1))) (dCons (dUn gLen (dBin gIdx (dVar 0) (dC (.int 0)))) dNil))))
  (dRet (dLift (dPr gTup (dCons (dUn gLen (dBin gIdx (dVar 0) (dC (.int 0)))) (dCons (dUn gLen (dBin gIdx (dVar 0) (dC (.int 1)))) dNil)))))))))
def D_looked : Den := dDef 1 4 d_looked
def d_run_of_b1 : DenS := (dIf (dB (dBin (gD (gInS true)) (dVar 1) (dC (.str "0123456789"))))
  (dRaise "NoNote")
  dNext)
def d_run_of : DenS := (dSeq (dFor (dSrc false (dVar 0)) (tgN 1) d_run_of_b1)
  (dSeq (dIf (dOrT (dNotT (dB (dChain (fun i j => decide (i ≤ j)) (fun i j => decide (i ≤ j)) (dC (.int 1)) (dUn gLen (dVar 0)) (dC (.int 3))))) (dB (dBin gEq (dBin gIdx (dVar 0) (dC (.int 0))) (dC (.str "0")))))
  (dRaise "NoNote")
  dNext)
  (dRet (dLift (dUn (gD gIntD) (dVar 0))))))
def D_run_of : Den := dDef 1 2 d_run_of
def d_runs_read_e1 : En → Rs Tr := (dCall D_run_of (dCons (dVar 1) dNil))
def d_runs_read : DenS := (dSeq (dIf (dB (dBin gEq (dVar 0) (dC (.str "0"))))
  (dRet (dLift (dPr gTup dNil)))
  dNext)
  (dRet (dLift (dUn gTuple (dCompD (dSrc true (dMeth isS gSplit (dVar 0) (dC (.str " ")))) (tgN 1) [1] d_runs_read_e1)))))
def D_runs_read : Den := dDef 1 2 d_runs_read
def d_read_e1 : En → Rs Tr := (dCall D_runs_read (dCons (dVar 4) dNil))
def d_read_e2 : En → Rs Tr := (dCall D_runs_read (dCons (dVar 4) dNil))
def d_read : DenS := (dSeq (dSet true 1 (dMeth isS gSplit (dVar 0) (dC (.str "|"))))
  (dSeq (dIf (dB (dBin gNe (dUn gLen (dVar 1)) (dC (.int 2))))
  (dRaise "NoNote")
  dNext)
  (dSeq (dSet true 2 (dUn gTuple (dCompD (dSrc true (dMeth isS gSplit (dBin gIdx (dVar 1) (dC (.int 0))) (dC (.str ",")))) (tgN 4) [4] d_read_e1)))
  (dSeq (dSet true 3 (dPr gTup (dCons (dVar 2) (dCons (dUn gTuple (dCompD (dSrc true (dMeth isS gSplit (dBin gIdx (dVar 1) (dC (.int 1))) (dC (.str ",")))) (tgN 4) [4] d_read_e2)) dNil))))
  (dSeq (dDrop (dCall D_looked (dCons (dVar 3) dNil)))
  (dRet (dLift (dVar 3))))))))
def D_read : Den := dDef 1 5 d_read
def d_l_cell_at : DenS := (dSeq (dIf (dB (dBin gLt (dVar 1) (dUn gLen (dVar 0))))
  (dRet (dLift (dBin gIdx (dVar 0) (dVar 1))))
  dNext)
  (dRet (dLift (dC (.int 0)))))
def D_l_cell_at : Den := dDef 2 2 d_l_cell_at
def d_l_whole : DenS := (dRet (dLift (dAnd (dUn (gIsi "int") (dVar 0)) (dNot (dUn (gIsi "bool") (dVar 0))))))
def D_l_whole : Den := dDef 1 1 d_l_whole
def d_l_mix : DenS := (dSeq (dSet true 2 (dBin gMod (dBin gAdd (dBin gAdd (dBin gMul (dVar 0) (dC (.int 69621))) (dBin gMul (dC (.int 7001)) (dVar 1))) (dC (.int 3))) (dC (.int 2147483629))))
  (dRet (dLift (dBin gMod (dBin gAdd (dBin gAdd (dBin gMul (dVar 2) (dVar 2)) (dBin gMul (dC (.int 39373)) (dVar 2))) (dVar 1)) (dC (.int 2147483647))))))
def D_l_mix : Den := dDef 2 3 d_l_mix
def d_l_runs_b1 : DenS := (dIf (dB (dBin gEq (dVar 3) (dC (.int 1))))
  (dSet true 2 (dBin gAdd (dVar 2) (dC (.int 1))))
  (dIf (dB (dBin gGt (dVar 2) (dC (.int 0))))
  (dSeq (dApp (pN 1) (dLift (dVar 2)))
  (dSet true 2 (dC (.int 0))))
  dNext))
def d_l_runs : DenS := (dSeq (dSet false 1 (dPr gLst dNil))
  (dSeq (dSet true 2 (dC (.int 0)))
  (dSeq (dFor (dSrc false (dBin gAdd (dVar 0) (dPr gLst (dCons (dC (.int 0)) dNil)))) (tgN 3) d_l_runs_b1)
  (dRet (dLift (dUn gTuple (dVar 1)))))))
def D_l_runs : Den := dDef 1 4 d_l_runs
def d_l_picture_b1 : DenS := (dSeq (dSet true 8 (dBin gDiv (dCall D_l_mix (dCons (dVar 0) (dCons (dBin gAdd (dBin gAdd (dC (.int 1000)) (dBin gMul (dC (.int 20)) (dVar 5))) (dVar 7)) dNil))) (dC (.int 7))))
  (dApp (pN 6) (dLift (dUn (gD gIntD) (dBin gGt (dBin gMod (dVar 8) (dC (.int 4))) (dVar 3))))))
def d_l_picture_b2 : DenS := (dSeq (dSet false 6 (dPr gLst dNil))
  (dSeq (dFor (dRng1 (dVar 2)) (tgN 7) d_l_picture_b1)
  (dApp (pN 4) (dMove 6))))
def d_l_picture : DenS := (dSeq (dSet true 3 (dBin gMod (dCall D_l_mix (dCons (dVar 0) (dCons (dC (.int 3)) dNil))) (dC (.int 3))))
  (dSeq (dSet false 4 (dPr gLst dNil))
  (dSeq (dFor (dRng1 (dVar 1)) (tgN 5) d_l_picture_b2)
  (dRet (dMove 4)))))
def D_l_picture : Den := dDef 3 9 d_l_picture
def d_l_column_e1 : En → Rs Tr := (dBin gIdx (dVar 2) (dVar 1))
def d_l_column : DenS := (dRet (dLift (dComp (dSrc true (dVar 0)) (tgN 2) [2] none d_l_column_e1)))
def D_l_column : Den := dDef 2 3 d_l_column
def d_l_board_e1 : En → Rs Tr := (dCall D_l_runs (dCons (dCall D_l_column (dCons (dVar 0) (dCons (dVar 2) dNil))) dNil))
def d_l_board_e2 : En → Rs Tr := (dCall D_l_runs (dCons (dVar 3) dNil))
def d_l_board : DenS := (dSeq (dSet true 1 (dComp (dRng1 (dUn gLen (dBin gIdx (dVar 0) (dC (.int 0))))) (tgN 2) [2] none d_l_board_e1))
  (dRet (dLift (dPr gTup (dCons (dUn gTuple (dComp (dSrc true (dVar 0)) (tgN 3) [3] none d_l_board_e2)) (dCons (dUn gTuple (dVar 1)) dNil))))))
def D_l_board : Den := dDef 1 4 d_l_board
def d_l_lines_e1 : En → Rs Tr := (dCall D_l_whole (dCons (dVar 3) dNil))
def d_l_lines_b2 : DenS := (dSeq (dIf (dOrT (dNotT (dB (dUn (gIsi "tuple") (dBin gIdx (dVar 0) (dVar 2))))) (dB (dBin gNe (dBin gIdx (dVar 0) (dVar 2)) (dBin gIdx (dVar 1) (dVar 2)))))
  (dRet (dLift (dC (.bool false))))
  dNext)
  (dIf (dNotT (dB (dUn (gD gAllD) (dComp (dSrc true (dBin gIdx (dVar 0) (dVar 2))) (tgN 3) [3] none d_l_lines_e1))))
  (dRet (dLift (dC (.bool false))))
  dNext))
def d_l_lines : DenS := (dSeq (dIf (dOrT (dNotT (dB (dUn (gIsi "tuple") (dVar 0)))) (dB (dBin gNe (dUn gLen (dVar 0)) (dUn gLen (dVar 1)))))
  (dRet (dLift (dC (.bool false))))
  dNext)
  (dSeq (dFor (dRng1 (dUn gLen (dVar 1))) (tgN 2) d_l_lines_b2)
  (dRet (dLift (dC (.bool true))))))
def D_l_lines : Den := dDef 2 4 d_l_lines
def d_l_text_e1 : En → Rs Tr := (dUn (gD gStrD) (dVar 6))
def d_l_text_b2 : DenS := (dSeq (dSet true 5 (dMeth isS (gD gJoinD) (dC (.str " ")) (dComp (dSrc true (dVar 4)) (tgN 6) [6] none d_l_text_e1)))
  (dSeq (dIf (dB (dBin gEq (dVar 4) (dPr gTup dNil)))
  (dSet true 5 (dC (.str "0")))
  dNext)
  (dApp (pN 3) (dLift (dVar 5)))))
def d_l_text_b3 : DenS := (dSeq (dSet false 3 (dPr gLst dNil))
  (dSeq (dFor (dSrc false (dVar 2)) (tgN 4) d_l_text_b2)
  (dApp (pN 1) (dLift (dMeth isS (gD gJoinD) (dC (.str ",")) (dVar 3))))))
def d_l_text : DenS := (dSeq (dSet false 1 (dPr gLst dNil))
  (dSeq (dFor (dSrc false (dVar 0)) (tgN 2) d_l_text_b3)
  (dRet (dLift (dBin gAdd (dBin gAdd (dBin gIdx (dVar 1) (dC (.int 0))) (dC (.str "|"))) (dBin gIdx (dVar 1) (dC (.int 1))))))))
def D_l_text : Den := dDef 1 7 d_l_text
def d_l_refused_e1 : En → Rs Tr := (dBin gEq (dVar 2) (dVar 1))
def d_l_refused : DenS := (dRet (dLift (dBin gEq (dVar 0) (dBin gAdd (dComp (dRng1 (dC (.int 6))) (tgN 2) [2] none d_l_refused_e1) (dPr gLst (dCons (dC (.bool true)) dNil))))))
def D_l_refused : Den := dDef 2 3 d_l_refused
def d_l_told : DenS := (dSeq (dSet true 1 (dC .none))
  (dSeq (dSet true 2 (dPr gLst dNil))
  (dSeq (dTry errL 3 2 (dSet true 1 (dCall D_read (dCons (dVar 0) dNil))))
  (dRet (dLift (dPr gTup (dCons (dVar 1) (dCons (dVar 2) dNil))))))))
def D_l_told : Den := dDef 1 4 d_l_told
def d_l_line_of_e1 : En → Rs Tr := (dVar 3)
def d_l_line_of_t2 : En → Rs Bool := (dB (dBin (gD (gInS true)) (dVar 3) (dC (.str "0123456789"))))
def d_l_line_of_b3 : DenS := (dSeq (dIf (dOrT (dNotT (dB (dChain (fun i j => decide (i < j)) (fun i j => decide (i < j)) (dC (.int 0)) (dUn gLen (dVar 2)) (dC (.int 4))))) (dOrT (dB (dBin gEq (dBin gIdx (dVar 2) (dC (.int 0))) (dC (.str "0")))) (dB (dBin gNe (dComp (dSrc true (dVar 2)) (tgN 3) [3] (some d_l_line_of_t2) d_l_line_of_e1) (dPr gLst dNil)))))
  (dRet (dLift (dC .none)))
  dNext)
  (dApp (pN 1) (dLift (dUn (gD gIntD) (dVar 2)))))
def d_l_line_of : DenS := (dSeq (dIf (dB (dBin gEq (dVar 0) (dC (.str "0"))))
  (dRet (dLift (dPr gTup dNil)))
  dNext)
  (dSeq (dSet false 1 (dPr gLst dNil))
  (dSeq (dFor (dSrc false (dMeth isS gSplit (dVar 0) (dC (.str " ")))) (tgN 2) d_l_line_of_b3)
  (dRet (dLift (dUn gTuple (dVar 1)))))))
def D_l_line_of : Den := dDef 1 4 d_l_line_of
def d_l_due_e1 : En → Rs Tr := (dCall D_l_line_of (dCons (dVar 5) dNil))
def d_l_due_e2 : En → Rs Tr := (dCall D_l_line_of (dCons (dVar 5) dNil))
def d_l_due_b3 : DenS := (dIf (dAndT (dB (dBin gNe (dVar 4) (dPr gTup dNil))) (dB (dBin gGt (dBin gSub (dBin gAdd (dUn (gD gSumD) (dVar 4)) (dUn gLen (dVar 4))) (dC (.int 1))) (dUn gLen (dVar 3)))))
  (dRet (dLift (dC (.int 4))))
  dNext)
def d_l_due_b4 : DenS := (dIf (dAndT (dB (dBin gNe (dVar 4) (dPr gTup dNil))) (dB (dBin gGt (dBin gSub (dBin gAdd (dUn (gD gSumD) (dVar 4)) (dUn gLen (dVar 4))) (dC (.int 1))) (dUn gLen (dVar 2)))))
  (dRet (dLift (dC (.int 4))))
  dNext)
def d_l_due : DenS := (dSeq (dSet true 1 (dMeth isS gSplit (dVar 0) (dC (.str "|"))))
  (dSeq (dIf (dB (dBin gNe (dUn gLen (dVar 1)) (dC (.int 2))))
  (dRet (dLift (dC (.int 5))))
  dNext)
  (dSeq (dSet true 2 (dComp (dSrc true (dMeth isS gSplit (dBin gIdx (dVar 1) (dC (.int 0))) (dC (.str ",")))) (tgN 5) [5] none d_l_due_e1))
  (dSeq (dSet true 3 (dComp (dSrc true (dMeth isS gSplit (dBin gIdx (dVar 1) (dC (.int 1))) (dC (.str ",")))) (tgN 5) [5] none d_l_due_e2))
  (dSeq (dIf (dOrT (dB (dBin gIn (dC .none) (dVar 2))) (dB (dBin gIn (dC .none) (dVar 3))))
  (dRet (dLift (dC (.int 5))))
  dNext)
  (dSeq (dIf (dOrT (dB (dBin gGt (dUn gLen (dVar 2)) (dC (.int 12)))) (dB (dBin gGt (dUn gLen (dVar 3)) (dC (.int 12)))))
  (dRet (dLift (dC (.int 2))))
  dNext)
  (dSeq (dFor (dSrc false (dVar 2)) (tgN 4) d_l_due_b3)
  (dSeq (dFor (dSrc false (dVar 3)) (tgN 4) d_l_due_b4)
  (dRet (dLift (dPr gTup (dCons (dUn gTuple (dVar 2)) (dCons (dUn gTuple (dVar 3)) dNil)))))))))))))
def D_l_due : Den := dDef 1 6 d_l_due
def d_l_odd : DenS := (dRet (dLift (dBin gIdx (dPr gLst (dCons (dC (.str "")) (dCons (dC (.str "|")) (dCons (dC (.str "0|")) (dCons (dC (.str "|0")) (dCons (dC (.str "0")) (dCons (dC (.str "0|0|0")) (dCons (dC (.str "0 |0")) (dCons (dC (.str "0|0 ")) (dCons (dC (.str "0,|0")) (dCons (dC (.str "1|1,")) dNil))))))))))) (dBin gMod (dVar 0) (dC (.int 10))))))
def D_l_odd : Den := dDef 1 1 d_l_odd
def d_l_lined : DenS := (dSeq (dSet false 3 (dMeth isS gSplit (dVar 0) (dC (.str "|"))))
  (dSeq (dSet false 4 (dMeth isS gSplit (dBin gIdx (dVar 3) (dBin gMod (dVar 1) (dC (.int 2)))) (dC (.str ","))))
  (dSeq (dSet true 5 (dPr gLst (dCons (dC (.str "")) (dCons (dC (.str "0")) (dCons (dC (.str "00")) (dCons (dC (.str "01")) (dCons (dC (.str "1 0")) (dCons (dC (.str "0 1")) (dCons (dC (.str " 1")) (dCons (dC (.str "1 ")) (dCons (dC (.str "1  1")) (dCons (dC (.str "+1")) (dCons (dC (.str "1_0")) (dCons (dC (.str "-1")) (dCons (dC (.str "999")) (dCons (dC (.str "1000")) (dCons (dC (.str "1.")) (dCons (dC (.str "a")) dNil))))))))))))))))))
  (dSeq (dPut (pN 4) (dBin gMod (dBin gDiv (dVar 1) (dC (.int 2))) (dUn gLen (dVar 4))) (dLift (dBin gIdx (dVar 5) (dBin gMod (dVar 2) (dC (.int 16))))))
  (dSeq (dPut (pN 3) (dBin gMod (dVar 1) (dC (.int 2))) (dLift (dMeth isS (gD gJoinD) (dC (.str ",")) (dVar 4))))
  (dRet (dLift (dBin gAdd (dBin gAdd (dBin gIdx (dVar 3) (dC (.int 0))) (dC (.str "|"))) (dBin gIdx (dVar 3) (dC (.int 1)))))))))))
def D_l_lined : Den := dDef 3 6 d_l_lined
def d_law_r1 : DenS := (dRet (dLift (dAnd (dCall D_l_lines (dCons (dBin gIdx (dBin gIdx (dVar 7) (dC (.int 0))) (dC (.int 0))) (dCons (dBin gIdx (dVar 6) (dC (.int 0))) dNil))) (dCall D_l_lines (dCons (dBin gIdx (dBin gIdx (dVar 7) (dC (.int 0))) (dC (.int 1))) (dCons (dBin gIdx (dVar 6) (dC (.int 1))) dNil))))))
def d_law_r2 : DenS := (dSeq (dIf (dOrT (dB (dBin gNe (dBin gIdx (dVar 7) (dC (.int 1))) (dPr gLst dNil))) (dOrT (dNotT (dB (dUn (gIsi "tuple") (dBin gIdx (dVar 7) (dC (.int 0)))))) (dB (dBin gNe (dUn gLen (dBin gIdx (dVar 7) (dC (.int 0)))) (dC (.int 2))))))
  (dRet (dLift (dC (.bool false))))
  dNext)
  d_law_r1)
def d_law_r3 : DenS := (dSeq (dSet true 6 (dCall D_l_due (dCons (dVar 2) dNil)))
  (dSeq (dSet true 7 (dCall D_l_told (dCons (dVar 2) dNil)))
  (dSeq (dIf (dNotT (dB (dUn (gIsi "tuple") (dVar 6))))
  (dRet (dLift (dCall D_l_refused (dCons (dBin gIdx (dVar 7) (dC (.int 1))) (dCons (dVar 6) dNil)))))
  dNext)
  d_law_r2)))
def d_law_r4 : DenS := (dSeq (dIf (dB (dBin gEq (dVar 3) (dC (.int 6))))
  (dSet true 2 (dCall D_l_odd (dCons (dCall D_l_cell_at (dCons (dVar 0) (dCons (dC (.int 4)) dNil))) dNil)))
  dNext)
  d_law_r3)
def d_law_r5 : DenS := (dSeq (dIf (dOrT (dB (dBin gEq (dVar 3) (dC (.int 4)))) (dB (dBin gEq (dVar 3) (dC (.int 5)))))
  (dSet true 2 (dCall D_l_lined (dCons (dVar 2) (dCons (dCall D_l_cell_at (dCons (dVar 0) (dCons (dC (.int 3)) dNil))) (dCons (dCall D_l_cell_at (dCons (dVar 0) (dCons (dC (.int 4)) dNil))) dNil)))))
  dNext)
  d_law_r4)
def d_law_r6 : DenS := (dSeq (dIf (dB (dBin gEq (dVar 3) (dC (.int 3))))
  (dSet true 2 (dBin gAdd (dSl (dVar 2) none (some (dVar 4))) (dSl (dVar 2) (some (dBin gAdd (dVar 4) (dC (.int 1)))) none)))
  dNext)
  d_law_r5)
def d_law_r7 : DenS := (dSeq (dIf (dB (dBin gEq (dVar 3) (dC (.int 2))))
  (dSet true 2 (dBin gAdd (dBin gAdd (dSl (dVar 2) none (some (dVar 4))) (dVar 5)) (dSl (dVar 2) (some (dBin gAdd (dVar 4) (dC (.int 1)))) none)))
  dNext)
  d_law_r6)
def d_law : DenS := (dSeq (dSet true 1 (dCall D_l_cell_at (dCons (dVar 0) (dCons (dC (.int 0)) dNil))))
  (dSeq (dSet true 2 (dCall D_l_text (dCons (dCall D_l_board (dCons (dCall D_l_picture (dCons (dCall D_l_cell_at (dCons (dVar 0) (dCons (dC (.int 1)) dNil))) (dCons (dBin gAdd (dC (.int 1)) (dBin gMod (dVar 1) (dC (.int 13)))) (dCons (dBin gAdd (dC (.int 1)) (dBin gMod (dBin gDiv (dVar 1) (dC (.int 13))) (dC (.int 8)))) dNil)))) dNil)) dNil)))
  (dSeq (dSet true 3 (dBin gMod (dCall D_l_cell_at (dCons (dVar 0) (dCons (dC (.int 2)) dNil))) (dC (.int 10))))
  (dSeq (dSet true 4 (dBin gMod (dCall D_l_cell_at (dCons (dVar 0) (dCons (dC (.int 3)) dNil))) (dBin gAdd (dUn gLen (dVar 2)) (dC (.int 1)))))
  (dSeq (dSet true 5 (dBin gIdx (dC (.str " ,|0129-+_.a;1")) (dBin gMod (dCall D_l_cell_at (dCons (dVar 0) (dCons (dC (.int 4)) dNil))) (dC (.int 14)))))
  (dSeq (dIf (dOrT (dB (dBin gEq (dVar 3) (dC (.int 0)))) (dB (dBin gEq (dVar 3) (dC (.int 1)))))
  (dSet true 2 (dBin gAdd (dBin gAdd (dSl (dVar 2) none (some (dVar 4))) (dVar 5)) (dSl (dVar 2) (some (dVar 4)) none)))
  dNext)
  d_law_r7))))))
def D_law : Den := dDef 1 8 d_law
open PySem RP L2
@[simp] theorem m_mix (c k : Int) : D_l_mix [.d (.int c), .d (.int k)] = .ok (.d (.int (mixM c k))) := by
  have hb : 0 ≤ (c * 69621 + 7001 * k + 3) % 2147483629 ∧ (c * 69621 + 7001 * k + 3) % 2147483629 < 2147483629 := ⟨Int.emod_nonneg _ (by omega), Int.emod_lt_of_pos _ (by omega)⟩
  unfold D_l_mix
  rw [e_def2]
  unfold d_l_mix
  simp [gMul_l, gMul_r, gMod_i, mixM]
  rw [gMul_l _ _ (by omega)]
  simp [gMod_i]
theorem m_cell (ns : List Int) (k : Nat) : D_l_cell_at [.s ns, .d (.int k)] = .ok (.d (.int (cellM ns k))) := by
  unfold D_l_cell_at
  rw [e_def2]
  unfold d_l_cell_at
  simp
  by_cases h : k < ns.length
  · simp [h, atI_nn, cellM]
  · simp [h, cellM, List.getElem?_eq_none (Nat.le_of_not_lt h)]
@[simp] theorem m_cellI (ns : List Int) (k : Int) (h : 0 ≤ k) : D_l_cell_at [.s ns, .d (.int k)] = .ok (.d (.int (cellM ns k.toNat))) := by
  have e := m_cell ns k.toNat
  rw [Int.toNat_of_nonneg h] at e
  exact e
@[simp] theorem m_whole (i : Int) : D_l_whole [.d (.int i)] = .ok (.d (.bool true)) := by
  unfold D_l_whole
  rw [e_def1]
  unfold d_l_whole
  simp
theorem m_runs_loop (a : Option Tr) : ∀ (cs : List Int) (f : List Int) (n : Int) (v : Option Tr), f.length + cs.length ≤ 50000 → ∃ v',
    forL (tgN 3) d_l_runs_b1 (cs.map fun i => .d (.int i)) [a, some (.ol (f.map fun i => .d (.int i))), some (.d (.int n)), v]
      = .nx [a, some (.ol ((cs.foldl runsStep (f, n)).1.map fun i => .d (.int i))), some (.d (.int (cs.foldl runsStep (f, n)).2)), v']
  | [], f, n, v, _ => ⟨v, rfl⟩
  | c :: cs, f, n, v, hl => by
    rw [List.length_cons] at hl
    rw [List.map_cons, forL]
    by_cases h1 : c = 1
    · obtain ⟨v', e⟩ := m_runs_loop a cs f (n + 1) (some (.d (.int c))) (by omega)
      exact ⟨v', by simp [d_l_runs_b1, h1, runsStep] at e ⊢; exact e⟩
    · by_cases h2 : 0 < n
      · obtain ⟨v', e⟩ := m_runs_loop a cs (f ++ [n]) 0 (some (.d (.int c))) (by rw [List.length_append]; show f.length + 1 + cs.length ≤ _; omega)
        have hf : f.length < 100000 := by omega
        exact ⟨v', by simp [d_l_runs_b1, h1, h2, runsStep, isOl, chg, nodeT, setN, hf] at e ⊢; exact e⟩
      · obtain ⟨v', e⟩ := m_runs_loop a cs f n (some (.d (.int c))) (by omega)
        exact ⟨v', by simp [d_l_runs_b1, h1, h2, runsStep] at e ⊢; exact e⟩
theorem m_runs (cs : List Int) (h : cs.length ≤ 1000) : D_l_runs [.e (.list (cs.map .int))] = .ok (.d (.tuple ((runsM cs).map .int))) := by
  unfold D_l_runs
  rw [e_def1]
  unfold d_l_runs
  obtain ⟨v', e⟩ := m_runs_loop (some (.e (.list (cs.map .int)))) (cs ++ [0]) [] 0 none (by simp; omega)
  have hl : cs.length + 1 ≤ 100000 := by omega
  simp at e
  simp [gAdd, gCat, RP.gLst, srcItems, hl, gTuple, Function.comp_def, e, runsM]
theorem m_picture (c : Int) (R C : Nat) (hR : R ≤ 1000) (hC : C ≤ 1000) : D_l_picture [.d (.int c), .d (.int R), .d (.int C)] = .ok (OL (picM c R C)) := by
  have hr := rgOk_nat (n := R) (by omega)
  have hc := rgOk_nat (n := C) (by omega)
  have inner : ∀ (r : Nat) (x : Option Tr) (at_ dr : Option Tr), ∃ at' dr', forL (tgN 7) d_l_picture_b1 ((List.range C).map fun k : Nat => .d (.int (k : Int))) [some (.d (.int c)), some (.d (.int R)), some (.d (.int C)), some (.d (.int (mixM c 3 % 3))), x, some (.d (.int r)), some (.ol []), at_, dr]
      = .nx [some (.d (.int c)), some (.d (.int R)), some (.d (.int C)), some (.d (.int (mixM c 3 % 3))), x, some (.d (.int r)), some (.ol (((List.range C).map fun k : Nat => if mixM c (1000 + 20 * (r : Nat) + (k : Nat)) / 7 % 4 > mixM c 3 % 3 then (1 : Int) else 0).map fun i => .d (.int i))), at', dr'] := fun r x at_ dr => by
    obtain ⟨en', h1, at', dr', h2⟩ := forL_idx0 (T := tgN 7) (body := d_l_picture_b1) (src := fun k : Nat => .d (.int (k : Int)))
      (fun n en => ∃ at' dr', en = [some (.d (.int c)), some (.d (.int R)), some (.d (.int C)), some (.d (.int (mixM c 3 % 3))), x, some (.d (.int r)), some (.ol (((List.range n).map fun k : Nat => if mixM c (1000 + 20 * (r : Nat) + (k : Nat)) / 7 % 4 > mixM c 3 % 3 then (1 : Int) else 0).map fun i => .d (.int i))), at', dr']) (List.range C) _ ⟨at_, dr, rfl⟩ (fun i a en ha hi => by
        obtain ⟨rfl, hlt⟩ := range_get ha
        obtain ⟨at', dr', rfl⟩ := hi
        have hsz : a < 100000 := by omega
        refine ⟨_, _, rfl, .inl ?_, some (.d (.int a)), some (.d (.int (mixM c (1000 + 20 * (r : Int) + (a : Int)) / 7))), rfl⟩
        unfold d_l_picture_b1
        simp [gIntD, isOl, chg, nodeT, setN, List.range_succ, hsz])
    rw [List.length_range] at h2
    subst h2
    exact ⟨at', dr', h1⟩
  obtain ⟨en', h1, ro, li, at', dr', h2⟩ := forL_idx0 (T := tgN 5) (body := d_l_picture_b2) (src := fun k : Nat => .d (.int (k : Int)))
    (fun n en => ∃ ro li at' dr', en = [some (.d (.int c)), some (.d (.int R)), some (.d (.int C)), some (.d (.int (mixM c 3 % 3))), some (OL (picM c n C)), ro, li, at', dr']) (List.range R) [some (.d (.int c)), some (.d (.int R)), some (.d (.int C)), some (.d (.int (mixM c 3 % 3))), some (.ol []), none, none, none, none] ⟨none, none, none, none, rfl⟩ (fun i a en ha hi => by
      obtain ⟨rfl, hlt⟩ := range_get ha
      obtain ⟨ro, li, at', dr', rfl⟩ := hi
      obtain ⟨at2, dr2, e⟩ := inner a (some (OL (picM c a C))) at' dr'
      have hsz : (picM c a C).length < 100000 := by simp [picM]; omega
      refine ⟨_, _, rfl, .inl ?_, some (.d (.int a)), none, at2, dr2, rfl⟩
      unfold d_l_picture_b2
      simp at e
      simp [RP.gLst, hc, e, isOl, chg, nodeT, setN, hsz]
      simp [picM, List.range_succ])
  rw [List.length_range] at h2
  subst h2
  unfold D_l_picture
  rw [e_def3]
  unfold d_l_picture
  simp [RP.gLst, hr, h1]
theorem m_l_column (p : List (List Int)) (R C k : Nat) (h : Pic R C p) (hk : k < C) (hR : R ≤ 1000) : D_l_column [.e (LL p), .d (.int k)] = .ok (.ol ((colM p k).map fun i => .d (.int i))) := by
  have hc : ∀ a b, compL (tgN 2) none d_l_column_e1 [a, some (.d (.int k)), b] (p.map fun r => .e (.list (r.map .int))) = .ok (p.map fun r => .d (.int ((r[k]?).getD 0))) := fun a b =>
    compL_all (src := fun r : List Int => .e (.list (r.map .int))) (out := fun r : List Int => .d (.int ((r[k]?).getD 0))) p fun r hr => ⟨_, rfl, by
      have hl := h.row r hr
      unfold d_l_column_e1
      simp [RP.atI_nat, List.getElem?_eq_getElem (show k < r.length by omega)], rfl⟩
  have hl : p.length ≤ 100000 := by rw [h.len]; omega
  unfold D_l_column
  rw [e_def2]
  unfold d_l_column
  simp [srcItems, hc, hl, colM]
theorem m_l_board (p : List (List Int)) (R C : Nat) (h : Pic R C p) (h0 : 0 < R) (hR : R ≤ 1000) (hC : C ≤ 1000) : D_l_board [.e (LL p)] = .ok (.d (bdD (boardR p) (boardC p C))) := by
  have e2 : ∀ a b c, compL (tgN 3) none d_l_board_e2 [a, b, c, none] (p.map fun r => .e (.list (r.map .int))) = .ok (p.map fun r => .d (.tuple ((runsM r).map .int))) := fun a b c =>
    compL_all (src := fun r : List Int => .e (.list (r.map .int))) (out := fun r : List Int => .d (.tuple ((runsM r).map .int))) p fun r hr => ⟨_, rfl, by
      have hl := h.row r hr
      unfold d_l_board_e2
      simp [m_runs r (by omega)], rfl⟩
  have e1 : ∀ b c, compL (tgN 2) none d_l_board_e1 [some (.e (LL p)), b, none, c] ((List.range C).map fun k : Nat => .d (.int (k : Int))) = .ok ((List.range C).map fun k => .d (.tuple ((runsM (colM p k)).map .int))) := fun b c =>
    compL_all (src := fun k : Nat => .d (.int (k : Int))) (out := fun k : Nat => .d (.tuple ((runsM (colM p k)).map .int))) (List.range C) fun k hk => ⟨_, rfl, by
      rw [List.mem_range] at hk
      have hm := m_l_column p R C k h hk hR
      have hl : (colM p k).length ≤ 1000 := by unfold colM; rw [List.length_map, h.len]; exact hR
      unfold d_l_board_e1
      simp [hm, m_runs _ hl], rfl⟩
  have hl : p.length ≤ 100000 := by rw [h.len]; omega
  have hc : C ≤ 100000 := by omega
  have hr := rgOk_nat (n := C) (by omega)
  obtain ⟨r0, hr0⟩ : ∃ r0, p[0]? = some r0 := ⟨p[0]'(by rw [h.len]; exact h0), List.getElem?_eq_getElem _⟩
  have ha : atI p 0 = some r0 := by rw [atI_nn _ _ (by omega)]; exact hr0
  have h00 : r0.length = C := h.row r0 (List.mem_of_getElem? hr0)
  unfold D_l_board
  rw [e_def1]
  unfold d_l_board
  simp [srcItems, e1, e2, hl, hc, hr, gTuple, RP.gTup, ha, h00, boardR, boardC]
def wideR (size : Int) (r : List Int) : Bool := decide (r.sum + (if (r.length : Int) - 1 > 0 then (r.length : Int) - 1 else 0) > size)
theorem m_checked (q : List (List Int)) (size : Int) : D_checked [.d (TL q), .d (.int size)] = if q.any (wideR size) then .er "Wide" else .ok (.d .none) := by
  have h := forL_any (T := tgN 2) (body := d_checked_b1) (src := fun r : List Int => .d (.tuple (r.map .int))) (wideR size) (fun en => ∃ v, en = [some (.d (TL q)), some (.d (.int size)), v]) (fun en => .er "Wide" en) (fun _ _ => rfl) q [some (.d (TL q)), some (.d (.int size)), none] ⟨none, rfl⟩ (fun r en _ hi => by
    obtain ⟨v, rfl⟩ := hi
    have e : d_checked_b1 [some (.d (TL q)), some (.d (.int size)), some (.d (.tuple (r.map .int)))] = if wideR size r then .er "Wide" [some (.d (TL q)), some (.d (.int size)), some (.d (.tuple (r.map .int)))] else .nx [some (.d (TL q)), some (.d (.int size)), some (.d (.tuple (r.map .int)))] := by
      unfold d_checked_b1 wideR
      simp [gSumD, gMax2]
    refine ⟨_, [some (.d (TL q)), some (.d (.int size)), some (.d (.tuple (r.map .int)))], rfl, fun hb => ⟨?_, _, rfl⟩, fun hb => ?_⟩
    · exact e.trans (by rw [hb]; rfl)
    · exact e.trans (by rw [hb]; rfl))
  unfold D_checked
  rw [e_def2]
  unfold d_checked
  cases hb : q.any (wideR size) with
  | true =>
    obtain ⟨en2, e⟩ := h.1 hb
    simp [srcItems, e]
  | false =>
    obtain ⟨en2, e, _⟩ := h.2 hb
    simp [srcItems, e]
def badN (n : Nat) : Bool := !(decide (1 ≤ n) && decide (n ≤ 12))
def badR (r : List Int) : Bool := r.any fun i => decide (i < 1)
theorem m_looked1 (a b : List (List Int)) (v w : Option Tr) : ∃ x, forL (tgN 1) d_looked_b1 [.d (TL a), .d (TL b)] [some (.d (bdD a b)), none, v, w] = if badN a.length || badN b.length then .er "TooMany" [some (.d (bdD a b)), x, v, w] else .nx [some (.d (bdD a b)), x, v, w] := by
  have st : ∀ (q : List (List Int)), d_looked_b1 [some (.d (bdD a b)), some (.d (TL q)), v, w] = if badN q.length then .er "TooMany" [some (.d (bdD a b)), some (.d (TL q)), v, w] else .nx [some (.d (bdD a b)), some (.d (TL q)), v, w] := fun q => by
    unfold d_looked_b1 badN
    by_cases h1 : 1 ≤ q.length
    · have h1' : (1 : Int) ≤ q.length := by omega
      by_cases h2 : q.length ≤ 12
      · have h2' : (q.length : Int) ≤ 12 := by omega
        simp [h1, h1', h2, h2']
      · have h2' : ¬ (q.length : Int) ≤ 12 := by omega
        simp [h1, h1', h2, h2']
    · have h1' : ¬ (1 : Int) ≤ q.length := by omega
      simp [h1, h1']
  cases ha : badN a.length with
  | true => exact ⟨some (.d (TL a)), by simp [forL, st, ha]⟩
  | false =>
    cases hb : badN b.length with
    | true => exact ⟨some (.d (TL b)), by simp [forL, st, ha, hb]⟩
    | false => exact ⟨some (.d (TL b)), by simp [forL, st, ha, hb]⟩
theorem m_looked2 (bd : Tr) (r : List Int) (u w : Option Tr) : (badR r = true → ∃ en2, d_looked_b3 [some bd, u, some (.d (.tuple (r.map .int))), w] = .er "BadRun" en2) ∧ (badR r = false → ∃ w', d_looked_b3 [some bd, u, some (.d (.tuple (r.map .int))), w] = .nx [some bd, u, some (.d (.tuple (r.map .int))), w']) := by
  have h := forL_any (T := tgN 3) (body := d_looked_b2) (src := fun i : Int => .d (.int i)) (fun i => decide (i < 1)) (fun en => ∃ w', en = [some bd, u, some (.d (.tuple (r.map .int))), w']) (fun en => .er "BadRun" en) (fun _ _ => rfl) r [some bd, u, some (.d (.tuple (r.map .int))), w] ⟨w, rfl⟩ (fun i en _ hi => by
    obtain ⟨w', rfl⟩ := hi
    have e : d_looked_b2 [some bd, u, some (.d (.tuple (r.map .int))), some (.d (.int i))] = if decide (i < 1) then .er "BadRun" [some bd, u, some (.d (.tuple (r.map .int))), some (.d (.int i))] else .nx [some bd, u, some (.d (.tuple (r.map .int))), some (.d (.int i))] := by
      unfold d_looked_b2
      simp
    exact ⟨_, [some bd, u, some (.d (.tuple (r.map .int))), some (.d (.int i))], rfl, fun hb => ⟨e.trans (by rw [hb]; rfl), _, rfl⟩, fun hb => e.trans (by rw [hb]; rfl)⟩)
  unfold d_looked_b3
  constructor
  · intro hb
    obtain ⟨en2, e⟩ := h.1 hb
    exact ⟨en2, by simp [srcItems, e]⟩
  · intro hb
    obtain ⟨en2, e, w', rfl⟩ := h.2 hb
    exact ⟨w', by simp [srcItems, e]⟩
theorem m_looked3 (bd : Tr) (q : List (List Int)) (v w : Option Tr) : (q.any badR = true → ∃ en2, d_looked_b4 [some bd, some (.d (TL q)), v, w] = .er "BadRun" en2) ∧ (q.any badR = false → ∃ v' w', d_looked_b4 [some bd, some (.d (TL q)), v, w] = .nx [some bd, some (.d (TL q)), v', w']) := by
  have h := forL_any (T := tgN 2) (body := d_looked_b3) (src := fun r : List Int => .d (.tuple (r.map .int))) badR (fun en => ∃ v' w', en = [some bd, some (.d (TL q)), v', w']) (fun en => .er "BadRun" en) (fun _ _ => rfl) q [some bd, some (.d (TL q)), v, w] ⟨v, w, rfl⟩ (fun r en _ hi => by
    obtain ⟨v', w', rfl⟩ := hi
    obtain ⟨k1, k2⟩ := m_looked2 bd r (some (.d (TL q))) w'
    cases hb : badR r with
    | true =>
      obtain ⟨en2, e⟩ := k1 hb
      exact ⟨_, en2, rfl, fun z => (by cases z), fun _ => e⟩
    | false =>
      obtain ⟨w2, e⟩ := k2 hb
      exact ⟨_, _, rfl, fun _ => ⟨e, _, _, rfl⟩, fun z => (by cases z)⟩)
  unfold d_looked_b4
  constructor
  · intro hb
    obtain ⟨en2, e⟩ := h.1 hb
    exact ⟨en2, by simp [srcItems, e]⟩
  · intro hb
    obtain ⟨en2, e, v', w', rfl⟩ := h.2 hb
    exact ⟨v', w', by simp [srcItems, e]⟩
theorem m_looked4 (a b : List (List Int)) (x : Option Tr) : ((a.any badR || b.any badR) = true → ∃ en2, forL (tgN 1) d_looked_b4 [.d (TL a), .d (TL b)] [some (.d (bdD a b)), x, none, none] = .er "BadRun" en2) ∧ ((a.any badR || b.any badR) = false → ∃ u v w, forL (tgN 1) d_looked_b4 [.d (TL a), .d (TL b)] [some (.d (bdD a b)), x, none, none] = .nx [some (.d (bdD a b)), u, v, w]) := by
  obtain ⟨a1, a2⟩ := m_looked3 (.d (bdD a b)) a none none
  cases ha : a.any badR with
  | true =>
    obtain ⟨en2, e2⟩ := a1 ha
    exact ⟨fun _ => ⟨en2, by simp [forL, e2]⟩, fun z => (by cases z)⟩
  | false =>
    obtain ⟨v', w', e2⟩ := a2 ha
    obtain ⟨b1, b2⟩ := m_looked3 (.d (bdD a b)) b v' w'
    cases hb : b.any badR with
    | true =>
      obtain ⟨en2, e3⟩ := b1 hb
      exact ⟨fun _ => ⟨en2, by simp [forL, e2, e3]⟩, fun z => (by cases z)⟩
    | false =>
      obtain ⟨v2, w2, e3⟩ := b2 hb
      exact ⟨fun z => (by cases z), fun _ => ⟨_, v2, w2, by simp [forL, e2, e3]; rfl⟩⟩
def lookedM (a b : List (List Int)) : Rs Tr :=
  if badN a.length || badN b.length then .er "TooMany" else if a.any badR || b.any badR then .er "BadRun"
  else if a.any (wideR b.length) || b.any (wideR a.length) then .er "Wide" else .ok (.d (.tuple [.int a.length, .int b.length]))
theorem m_looked (a b : List (List Int)) : D_looked [.d (bdD a b)] = lookedM a b := by
  unfold D_looked lookedM
  rw [e_def1]
  unfold d_looked
  obtain ⟨x, e1⟩ := m_looked1 a b none none
  cases h1 : badN a.length || badN b.length with
  | true =>
    rw [h1] at e1
    simp at e1
    simp [srcItems, e1]
  | false =>
    rw [h1] at e1
    simp at e1
    obtain ⟨f1, f2⟩ := m_looked4 a b x
    have c1 := m_checked a b.length
    have c2 := m_checked b a.length
    cases ha : a.any badR || b.any badR with
    | true =>
      obtain ⟨en2, e2⟩ := f1 ha
      simp [srcItems, e1, e2]
    | false =>
      obtain ⟨u, v, w, e2⟩ := f2 ha
      cases hw : a.any (wideR b.length) with
      | true =>
        rw [hw] at c1
        simp at c1
        simp [srcItems, e1, e2, atI_nn, c1]
      | false =>
        rw [hw] at c1
        simp at c1
        cases hw2 : b.any (wideR a.length) with
        | true =>
          rw [hw2] at c2
          simp at c2
          simp [srcItems, e1, e2, atI_nn, c1, c2]
        | false =>
          rw [hw2] at c2
          simp at c2
          simp [srcItems, e1, e2, atI_nn, c1, c2, RP.gTup]
theorem gLen_SD (l : List Nat) (h : l.length ≤ 9000) : gLen [.d (SD l)] = some (.d (.int (l.length : Int))) := by
  show (if (SX.S l).length ≤ 100000 then some (Tr.d (.int ((SX.S l).length : Nat))) else none) = _
  rw [SX.S_len, if_pos (by omega)]
theorem gIdx_SD (c : Nat) (l : List Nat) (h : l.length ≤ 9000) : gIdx [.d (SD (c :: l)), .d (.int 0)] = some (.d (SD [c])) := by
  show (if (SX.S (c :: l)).length ≤ 100000 then (atI (c :: l) 0).map fun c => Tr.d (SD [c]) else none) = _
  rw [SX.S_len, List.length_cons, if_pos (by omega)]
  have := RP.atI_nat (c :: l) 0
  rw [show ((0 : Nat) : Int) = 0 from rfl] at this
  rw [this]
  rfl
theorem m_run_of (w : List Nat) (hw : ∀ c ∈ w, c < 128) (hl : w.length ≤ 9000) : D_run_of [.d (SD w)] = mR "NoNote" (fun n : Nat => .d (.int (n : Int))) (wordN w) := by
  have src : srcItems false (.d (SD w)) = some (w.map fun c => .d (SD [c])) := rfl
  have h := forL_any (T := tgN 1) (body := d_run_of_b1) (src := fun c : Nat => .d (SD [c])) (fun c => !decide (48 ≤ c ∧ c ≤ 57)) (fun en => ∃ v, en = [some (.d (SD w)), v]) (fun en => .er "NoNote" en) (fun _ _ => rfl) w [some (.d (SD w)), none] ⟨none, rfl⟩ (fun c en _ hi => by
    obtain ⟨v, rfl⟩ := hi
    have g := gIn_fig c
    have e : d_run_of_b1 [some (.d (SD w)), some (.d (SD [c]))] = if (!decide (48 ≤ c ∧ c ≤ 57)) = true then .er "NoNote" [some (.d (SD w)), some (.d (SD [c]))] else .nx [some (.d (SD w)), some (.d (SD [c]))] := by
      unfold d_run_of_b1
      generalize (!decide (48 ≤ c ∧ c ≤ 57)) = b at *
      simp [s_fig, g]
    exact ⟨_, [some (.d (SD w)), some (.d (SD [c]))], rfl, fun hb => ⟨e.trans (by rw [hb]; rfl), _, rfl⟩, fun hb => e.trans (by rw [hb]; rfl)⟩)
  have hany : (w.any fun c => !decide (48 ≤ c ∧ c ≤ 57)) = !digs w := by
    unfold digs
    rw [List.not_all_eq_any_not]
  rw [hany] at h
  have gl := gLen_SD w hl
  unfold D_run_of wordN
  rw [e_def1]
  unfold d_run_of
  cases hd : digs w with
  | false =>
    obtain ⟨en2, e⟩ := h.1 (by rw [hd]; rfl)
    have ok : okW w = false := by unfold okW; rw [hd]; rfl
    rw [ok]
    simp [src, e]
  | true =>
    obtain ⟨en2, e, v, rfl⟩ := h.2 (by rw [hd]; rfl)
    by_cases h13 : 1 ≤ w.length ∧ w.length ≤ 3
    · have l1 : (1 : Int) ≤ (w.length : Int) := by omega
      have l3 : (w.length : Int) ≤ 3 := by omega
      have hne : w ≠ [] := fun z => by rw [z] at h13; simp at h13
      obtain ⟨c, l, rfl⟩ := List.exists_cons_of_ne_nil hne
      have gi := gIdx_SD c l (by simp at hl; omega)
      have ge := gEq_SD (a := [c]) (b := [48]) (fun d hd => by rw [List.mem_singleton.mp hd]; exact hw c List.mem_cons_self) (by decide)
      by_cases h0 : c = 48
      · have ok : okW (c :: l) = false := by
          unfold okW
          rw [decide_eq_false (show ¬ ((c :: l).head? ≠ some 48) from fun z => z (by rw [h0]; rfl)), Bool.and_false]
        rw [decide_eq_true (by rw [h0])] at ge
        rw [ok]
        generalize c :: l = w at *
        simp [src, e, gl, l1, l3, gi, s_0, ge]
      · have ok : okW (c :: l) = true := by
          unfold okW
          rw [hd, decide_eq_true h13, decide_eq_true (show (c :: l).head? ≠ some 48 from fun z => h0 (by simpa using z))]; rfl
        obtain ⟨k1, k2, k3⟩ := okW_nL ok
        have gn := gInt_n3 (valW (c :: l)) k3
        rw [← k1] at gn
        rw [decide_eq_false (show ¬ [c] = [48] from fun z => h0 (by injection z))] at ge
        rw [ok]
        generalize c :: l = w at *
        simp [src, e, gl, l1, l3, gi, s_0, ge, gn]
    · have ok : okW w = false := by
        unfold okW
        rw [decide_eq_false h13, Bool.and_false, Bool.false_and]
      rw [ok]
      by_cases l1 : (1 : Int) ≤ (w.length : Int)
      · have l3 : ¬ (w.length : Int) ≤ 3 := by omega
        simp [src, e, gl, l1, l3]
      · simp [src, e, gl, l1]
theorem m_runs_read (t : List Nat) (ht : ∀ c ∈ t, c < 128) (hl : t.length ≤ 9000) : D_runs_read [.d (SD t)] = mR "NoNote" (fun rs => .d (RU rs)) (lineN t) := by
  have ge := gEq_SD (a := t) (b := [48]) ht (by decide)
  unfold lineN
  by_cases h0 : t = [48]
  · rw [if_pos h0]
    rw [decide_eq_true h0] at ge
    unfold D_runs_read
    rw [e_def1]
    unfold d_runs_read
    simp [s_0, ge, RP.gTup]
  · rw [if_neg h0]
    rw [decide_eq_false h0] at ge
    have hsp := gSplit_C (c := 32) (t := t) (by decide) hl
    have hok := splC_ok (c := 32) ht hl
    have hcnt := (spl_count 32 t []).2
    have cc : ∀ a, compD (tgN 1) d_runs_read_e1 [a, none] ((splC 32 t).map fun y => .d (SD y)) = mR "NoNote" (fun ys => ys.map fun n : Nat => PyData.int (n : Int)) (mapO wordN (splC 32 t)) := fun a => compD_map (T := tgN 1) (felt := d_runs_read_e1) (en := [a, none]) (c := "NoNote") (src := fun y => .d (SD y)) (f := wordN) (g := fun n : Nat => PyData.int (n : Int)) (fun _ => rfl) (splC 32 t) fun y hy => ⟨_, rfl, by
        have e := m_run_of y (hok y hy).1 (hok y hy).2
        unfold d_runs_read_e1
        simp [e]⟩
    have hl2 : (splC 32 t).length ≤ 100000 := by
      have : (splC 32 t).length ≤ t.length + 1 := hcnt
      omega
    have src : srcItems true (.ol ((splC 32 t).map fun y => Tr.d (SD y))) = some ((splC 32 t).map fun y => .d (SD y)) := by
      have cls : clean (.ol ((splC 32 t).map fun y => Tr.d (SD y))) = true := cleans_mapg (fun _ => rfl) _
      have dts : data (.ol ((splC 32 t).map fun y => Tr.d (SD y))) = some (.list ((splC 32 t).map SD)) := by
        show (datas _).map PyData.list = _
        rw [datas_mapg (f := fun y => Tr.d (SD y)) (g := SD) (fun _ => rfl) (splC 32 t)]; rfl
      show (if clean _ then (data _).bind fun x => (kids (.d x)).map (·.2) else none) = _
      rw [if_pos cls, dts]
      show some (((splC 32 t).map SD).map Tr.d) = _
      rw [List.map_map]; rfl
    generalize splC 32 t = L at *
    have comp : ∀ x1 : Option Tr, (dCompD (dSrc true (dMeth isS gSplit (dVar 0) (dC (.str " ")))) (tgN 1) [1] d_runs_read_e1) [some (.d (SD t)), none] = mR "NoNote" (fun ys : List Nat => .ol (ys.map fun n : Nat => .d (.int (n : Int)))) (mapO wordN L) := fun _ => by
      have s1 : (dSrc true (dMeth isS gSplit (dVar 0) (dC (.str " ")))) [some (.d (SD t)), none] = .ok (L.map fun y => .d (SD y)) := by
        have e : (dMeth isS gSplit (dVar 0) (dC (.str " "))) [some (.d (SD t)), none] = .ok (.ol (L.map fun y => .d (SD y))) := by simp [s_sp, hsp]
        unfold dSrc
        rw [e]
        simp only [Rs.bind_ok', src]
        rfl
      unfold dCompD
      rw [s1]
      simp only [Rs.bind_ok', List.length_map]
      rw [if_pos hl2, show wipeE [some (.d (SD t)), none] [1] = [some (.d (SD t)), none] from rfl, cc]
      cases mapO wordN L with
      | none => rfl
      | some ys =>
        show Rs.ok (Tr.ol ((ys.map fun n : Nat => PyData.int (n : Int)).map Tr.d)) = _
        rw [List.map_map]; rfl
    unfold D_runs_read
    rw [e_def1]
    unfold d_runs_read
    have comp := comp none
    cases q : mapO wordN L with
    | none =>
      rw [q] at comp
      simp only [mR] at comp ⊢
      simp [s_0, ge, comp]
    | some ys =>
      rw [q] at comp
      simp only [mR] at comp ⊢
      simp [s_0, ge, comp, gTuple, kidsS]
theorem src_SDs (L : List (List Nat)) (m : Bool) : srcItems m (.ol (L.map fun y => Tr.d (SD y))) = some (L.map fun y => .d (SD y)) := by
  have cls : clean (.ol (L.map fun y => Tr.d (SD y))) = true := cleans_mapg (fun _ => rfl) _
  have dts : data (.ol (L.map fun y => Tr.d (SD y))) = some (.list (L.map SD)) := by
    show (datas _).map PyData.list = _
    rw [datas_mapg (f := fun y => Tr.d (SD y)) (g := SD) (fun _ => rfl) L]; rfl
  show (if clean _ then (data _).bind fun x => (kids (.d x)).map (·.2) else none) = _
  rw [if_pos cls, dts]
  show some ((L.map SD).map Tr.d) = _
  rw [List.map_map]; rfl
theorem frz_SDs (L : List (List Nat)) : frz (.ol (L.map fun y => Tr.d (SD y))) = .d (.list (L.map SD)) := frz_of (cleans_mapg (fun _ => rfl) _) (by
  show (datas _).map PyData.list = _
  rw [datas_mapg (f := fun y => Tr.d (SD y)) (g := SD) (fun _ => rfl) L]; rfl)
theorem m_line_b3 (w : List Nat) (hw : ∀ c ∈ w, c < 128) (hl : w.length ≤ 9000) (a0 : Option Tr) (vs : List Nat) (hv : vs.length < 90000) :
    d_l_line_of_b3 [a0, some (.ol (vs.map fun n : Nat => .d (.int (n : Int)))), some (.d (SD w)), none] = if okW w then .nx [a0, some (.ol ((vs ++ [valW w]).map fun n : Nat => .d (.int (n : Int)))), some (.d (SD w)), none] else .rt (.d .none) [a0, some (.ol (vs.map fun n : Nat => .d (.int (n : Int)))), some (.d (SD w)), none] := by
  have gl := gLen_SD w hl
  have src : srcItems true (.d (SD w)) = some (w.map fun c => .d (SD [c])) := rfl
  have hwl : w.length ≤ 100000 := by omega
  have comp : ∀ b0 b1 b2 : Option Tr, compL (tgN 3) (some d_l_line_of_t2) d_l_line_of_e1 [b0, b1, b2, none] (w.map fun c => .d (SD [c])) = .ok ((w.filter fun c => !decide (48 ≤ c ∧ c ≤ 57)).map fun c => .d (SD [c])) := fun _ _ _ =>
    compL_filter (src := fun c : Nat => .d (SD [c])) (ok := fun c => !decide (48 ≤ c ∧ c ≤ 57)) (out := fun c : Nat => .d (SD [c])) w fun c hc => ⟨_, rfl, by
      have g := gIn_fig c
      unfold d_l_line_of_t2
      generalize (!decide (48 ≤ c ∧ c ≤ 57)) = b at *
      simp [s_fig, g], fun _ => ⟨by
      unfold d_l_line_of_e1
      simp, rfl⟩⟩
  have hf : (w.filter fun c => !decide (48 ≤ c ∧ c ≤ 57)) = [] ↔ digs w = true := by
    unfold digs
    rw [List.filter_eq_nil_iff, List.all_eq_true]
    constructor
    · intro h c hc
      have := h c hc
      simpa using this
    · intro h c hc
      have := h c hc
      simpa using this
  have ne : gNe [.ol ((w.filter fun c => !decide (48 ≤ c ∧ c ≤ 57)).map fun c => .d (SD [c])), .ol []] = some (.d (.bool (!digs w))) := by
    cases hd : digs w with
    | true => rw [hf.mpr hd]; rfl
    | false =>
      have hne : (w.filter fun c => !decide (48 ≤ c ∧ c ≤ 57)) ≠ [] := fun z => by rw [hf.mp z] at hd; cases hd
      have h128 : ∀ c ∈ (w.filter fun c => !decide (48 ≤ c ∧ c ≤ 57)), c < 128 := fun c hc => hw c (List.mem_filter.mp hc).1
      generalize (w.filter fun c => !decide (48 ≤ c ∧ c ≤ 57)) = F at *
      refine gNe_data (x := .list (F.map fun c => SD [c])) (y := .list []) ?_ rfl ?_ rfl ?_ rfl (b := false) ?_
      · show (datas _).map PyData.list = _
        rw [datas_mapg (f := fun c => Tr.d (SD [c])) (g := fun c => SD [c]) (fun _ => rfl) F]; rfl
      · show (F.map fun c => SD [c]).all (shk 39) = true
        rw [List.all_map, List.all_eq_true]
        intro c hc
        exact shk_SD 39 fun d hd => by rw [List.mem_singleton.mp hd]; exact h128 c hc
      · exact plns_all _ F fun c _ => rfl
      · constructor
        · intro h; cases h
        · intro h
          have h := PyData.list.inj h
          exact absurd (List.map_eq_nil_iff.mp h) hne
  have hv2 : vs.length < 100000 := by omega
  generalize (w.filter fun c => !decide (48 ≤ c ∧ c ≤ 57)) = F at *
  unfold d_l_line_of_b3
  by_cases h13 : 1 ≤ w.length ∧ w.length ≤ 3
  · have l1 : (0 : Int) < (w.length : Int) := by omega
    have l3 : (w.length : Int) < 4 := by omega
    have n1 : 0 < w.length := h13.1
    have n3 : w.length < 4 := by omega
    have hne : w ≠ [] := fun z => by rw [z] at h13; simp at h13
    have okv := okW_nL (w := w)
    obtain ⟨c, l, e⟩ := List.exists_cons_of_ne_nil hne
    have gi := gIdx_SD c l (by rw [e] at hl; simp at hl; omega)
    rw [← e] at gi
    have ge := gEq_SD (a := [c]) (b := [48]) (fun d hd => by rw [List.mem_singleton.mp hd]; exact hw c (by rw [e]; exact List.mem_cons_self)) (by decide)
    have hh : w.head? = some c := by rw [e]; rfl
    by_cases h0 : c = 48
    · have ok : okW w = false := by
        unfold okW
        rw [decide_eq_false (show ¬ (w.head? ≠ some 48) from fun z => z (by rw [hh, h0])), Bool.and_false]
      rw [decide_eq_true (by rw [h0])] at ge
      rw [ok]
      simp [gl, l1, l3, n1, n3, gi, s_0, ge, asI]
    · rw [decide_eq_false (show ¬ [c] = [48] from fun z => h0 (by injection z))] at ge
      cases hd : digs w with
      | false =>
        have ok : okW w = false := by unfold okW; rw [hd]; rfl
        rw [hd] at ne
        rw [ok]
        simp [gl, l1, l3, n1, n3, gi, s_0, ge, asI, src, comp, hwl, ne, RP.gLst]
      | true =>
        have ok : okW w = true := by
          unfold okW
          rw [hd, decide_eq_true h13, decide_eq_true (show w.head? ≠ some 48 from fun z => h0 (by rw [hh] at z; exact Option.some.inj z))]; rfl
        obtain ⟨k1, k2, k3⟩ := okv ok
        have gn := gInt_n3 (valW w) k3
        rw [← k1] at gn
        rw [hd] at ne
        rw [ok]
        simp [gl, l1, l3, n1, n3, gi, s_0, ge, asI, src, comp, hwl, ne, RP.gLst, gn, isOl, chg, hv2, nodeT, setN]
  · have ok : okW w = false := by
      unfold okW
      rw [decide_eq_false h13, Bool.and_false, Bool.false_and]
    rw [ok]
    by_cases l1 : (0 : Int) < (w.length : Int)
    · have l3 : ¬ (w.length : Int) < 4 := by omega
      have n1 : 0 < w.length := by omega
      have n3 : ¬ w.length < 4 := by omega
      simp [gl, l1, l3, n1, n3, asI]
    · have n1 : ¬ 0 < w.length := by omega
      simp [gl, l1, n1, asI]
theorem forL_orI {α : Type} {T : Tg} {body : DenS} {src : α → Tr} (I : Nat → En → Prop) (P : SR → Prop) (hP : ∀ r k, P r → loopR r k = r) : ∀ (xs : List α) (k : Nat) (en : En), I k en →
    (∀ j a en, xs[j]? = some a → I (k + j) en → ∃ en1, T (src a) en = some en1 ∧ ((∃ en2, body en1 = .nx en2 ∧ I (k + j + 1) en2) ∨ P (body en1))) → (∃ en', forL T body (xs.map src) en = .nx en' ∧ I (k + xs.length) en') ∨ P (forL T body (xs.map src) en)
  | [], k, en, h, _ => .inl ⟨en, rfl, h⟩
  | a :: xs, k, en, h, st => by
    obtain ⟨en1, h1, h2⟩ := st 0 a en rfl h
    have e : forL T body ((a :: xs).map src) en = loopR (body en1) (forL T body (xs.map src)) := by
      rw [List.map_cons, forL, h1]
    rw [e]
    rcases h2 with ⟨en2, h2, h3⟩ | h2
    · rw [h2, loopR_nx]
      have := forL_orI (T := T) (body := body) (src := src) I P hP xs (k + 1) en2 h3 fun j b en hb hi => by
        have hi : I (k + (j + 1)) en := by rw [show k + (j + 1) = k + 1 + j by omega]; exact hi
        have := st (j + 1) b en hb hi
        rw [show k + (j + 1) + 1 = k + 1 + j + 1 by omega] at this
        exact this
      rw [List.length_cons, show k + (xs.length + 1) = k + 1 + xs.length by omega]
      exact this
    · rw [hP _ _ h2]
      exact .inr h2
theorem m_line_of (t : List Nat) (ht : ∀ c ∈ t, c < 128) (hl : t.length ≤ 9000) : D_l_line_of [.d (SD t)] = .ok (.d (lnV (lineN t))) := by
  have ge := gEq_SD (a := t) (b := [48]) ht (by decide)
  unfold lineN
  by_cases h0 : t = [48]
  · rw [if_pos h0]
    rw [decide_eq_true h0] at ge
    unfold D_l_line_of
    rw [e_def1]
    unfold d_l_line_of
    simp [s_0, ge, RP.gTup]
    rfl
  · rw [if_neg h0]
    rw [decide_eq_false h0] at ge
    have hsp := gSplit_C (c := 32) (t := t) (by decide) hl
    have hok := splC_ok (c := 32) ht hl
    have hcnt : (splC 32 t).length ≤ t.length + 1 := (spl_count 32 t []).2
    have src := src_SDs (splC 32 t) false
    generalize splC 32 t = L at *
    have loop := forL_orI (T := tgN 2) (body := d_l_line_of_b3) (src := fun w => .d (SD w))
      (fun j en => (∀ w ∈ L.take j, okW w = true) ∧ j ≤ L.length ∧ ∃ x2, en = [some (.d (SD t)), some (.ol (((L.take j).map valW).map fun n : Nat => .d (.int (n : Int)))), x2, none])
      (fun q => (∃ en, q = .rt (.d .none) en) ∧ ∃ w ∈ L, okW w = false) (fun r k ⟨⟨en, e⟩, _⟩ => by rw [e]; rfl) L 0 [some (.d (SD t)), some (.ol []), none, none]
      ⟨fun w hw => (by cases hw), Nat.zero_le _, none, rfl⟩ (fun j w en hj hI => by
        obtain ⟨i1, i2, x2, rfl⟩ := hI
        rw [Nat.zero_add] at *
        have hm := List.mem_of_getElem? hj
        have hlt := (List.getElem?_eq_some_iff.mp hj).1
        have e := m_line_b3 w (hok w hm).1 (hok w hm).2 (some (.d (SD t))) ((L.take j).map valW) (by rw [List.length_map, List.length_take]; omega)
        refine ⟨_, rfl, ?_⟩
        cases ok : okW w with
        | false =>
          rw [ok] at e
          exact .inr ⟨⟨_, e⟩, w, hm, ok⟩
        | true =>
          rw [ok] at e
          have e2 : L.take (j + 1) = L.take j ++ [w] := by rw [List.take_add_one, hj]; rfl
          refine .inl ⟨_, e, ?_, hlt, some (.d (SD w)), ?_⟩
          · rw [e2]
            intro v hv
            rcases List.mem_append.mp hv with z | z
            · exact i1 v z
            · rw [List.mem_singleton.mp z]; exact ok
          · rw [e2, List.map_append (f := valW)]; rfl)
    rw [Nat.zero_add, List.take_length] at loop
    unfold D_l_line_of
    rw [e_def1]
    unfold d_l_line_of
    rcases loop with ⟨en', e, h1, _, x2, rfl⟩ | ⟨⟨en, e⟩, w, hw, hb⟩
    · rw [all_okW L h1]
      simp [s_0, ge, RP.gLst, s_sp, hsp, src, e, gTuple, kidsS]
      show _ = PyData.tuple ((L.map valW).map fun n : Nat => .int (n : Int))
      rw [List.map_map]; rfl
    · have : mapO wordN L = none := (mapO_map _ _).mpr ⟨w, hw, by unfold wordN; rw [hb]; rfl⟩
      rw [this]
      simp [s_0, ge, RP.gLst, s_sp, hsp, src, e, lnV]
theorem bdD_zL (r c : List (List Nat)) : bdD (zL r) (zL c) = BD r c := by
  show PyData.tuple [TL (zL r), TL (zL c)] = _
  rw [TL_zL, TL_zL]
def boardP : List (List Nat) → Option (List (List Nat) × List (List Nat))
  | [a, b] => (linesN a).bind fun r => (linesN b).map fun c => (r, c)
  | _ => none
theorem boardN_P (t : List Nat) : boardN t = boardP (splC 124 t) := by
  unfold boardN boardP
  generalize splC 124 t = L
  rcases L with _ | ⟨a, _ | ⟨b, _ | ⟨c, l⟩⟩⟩ <;> rfl
theorem boardP_ne {L : List (List Nat)} (h : L.length ≠ 2) : boardP L = none := by
  unfold boardP
  split
  · exact absurd rfl h
  · rfl
def readP : Option (List (List Nat) × List (List Nat)) → Rs Tr
  | none => .er "NoNote"
  | some (r, c) => (lookedM (zL r) (zL c)).bind fun _ => .ok (.d (BD r c))
def readN (t : List Nat) : Rs Tr := readP (boardN t)
theorem dCompD_src {α β : Type} {src : En → Rs (List Tr)} {T : Tg} {vs : List Nat} {felt : En → Rs Tr} {en : En} {xs : List α} {sr : α → Tr} {o : Option (List β)} {g : β → PyData} {c : Str} (h1 : src en = .ok (xs.map sr)) (hl : xs.length ≤ 100000) (h2 : compD T felt (wipeE en vs) (xs.map sr) = mR c (fun ys => ys.map g) o) : dCompD src T vs felt en = mR c (fun ys => .ol (ys.map fun y => .d (g y))) o := by
  unfold dCompD
  rw [h1]
  simp only [Rs.bind_ok', List.length_map]
  rw [if_pos hl, h2]
  cases o with
  | none => rfl
  | some ys =>
    show Rs.ok (Tr.ol ((ys.map g).map Tr.d)) = _
    rw [List.map_map]; rfl
theorem m_lines_c (u : List Nat) (hu : ∀ c ∈ u, c < 128) (hl : u.length ≤ 9000) (a0 a1 a2 a3 : Option Tr) : compD (tgN 4) d_read_e1 [a0, a1, a2, a3, none] ((splC 44 u).map fun y => .d (SD y)) = mR "NoNote" (fun ys => ys.map fun rs => RU rs) (linesN u) := by
  have hok := splC_ok (c := 44) hu hl
  exact compD_map (T := tgN 4) (felt := d_read_e1) (en := [a0, a1, a2, a3, none]) (c := "NoNote") (src := fun y => .d (SD y)) (f := lineN) (g := fun rs => RU rs) (fun rs => lfs_RU rs) (splC 44 u) fun y hy => ⟨_, rfl, by
    have e := m_runs_read y (hok y hy).1 (hok y hy).2
    unfold d_read_e1
    simp [e]⟩
theorem m_lines_read (u : List Nat) (hu : ∀ c ∈ u, c < 128) (hl : u.length ≤ 9000) (a0 a2 a3 : Option Tr) (ps : List (List Nat)) (k : Int) (hk : atI ps k = some u) :
    dCompD (dSrc true (dMeth isS gSplit (dBin gIdx (dVar 1) (dC (.int k))) (dC (.str ",")))) (tgN 4) [4] d_read_e1 [a0, some (.d (.list (ps.map SD))), a2, a3, none] = mR "NoNote" (fun ys => .ol (ys.map fun rs => .d (RU rs))) (linesN u) := by
  have hsp := gSplit_C (c := 44) (t := u) (by decide) hl
  have hcnt : (splC 44 u).length ≤ u.length + 1 := (spl_count 44 u []).2
  have src := src_SDs (splC 44 u) true
  refine dCompD_src (xs := splC 44 u) (sr := fun y => .d (SD y)) ?_ (by omega) (m_lines_c u hu hl _ _ _ _)
  have e : (dMeth isS gSplit (dBin gIdx (dVar 1) (dC (.int k))) (dC (.str ","))) [a0, some (.d (.list (ps.map SD))), a2, a3, none] = .ok (.ol ((splC 44 u).map fun y => .d (SD y))) := by simp [s_cm, hsp, hk]
  unfold dSrc
  rw [e]
  simp only [Rs.bind_ok', src]
  rfl
theorem m_read (t : List Nat) (ht : ∀ c ∈ t, c < 128) (hl : t.length ≤ 9000) : D_read [.d (SD t)] = readN t := by
  have hsp := gSplit_C (c := 124) (t := t) (by decide) hl
  have hok := splC_ok (c := 124) ht hl
  have fz := frz_SDs (splC 124 t)
  unfold readN
  rw [boardN_P]
  unfold D_read
  rw [e_def1]
  generalize splC 124 t = L at *
  by_cases h2 : L.length = 2
  · obtain ⟨a, b, rfl⟩ : ∃ a b, L = [a, b] := by
      match L, h2 with
      | [a, b], _ => exact ⟨a, b, rfl⟩
    have ha := hok a List.mem_cons_self
    have hb := hok b (List.mem_cons_of_mem _ List.mem_cons_self)
    have c1 := fun a0 a2 a3 => m_lines_read a ha.1 ha.2 a0 a2 a3 [a, b] 0 rfl
    have c2 := fun a0 a2 a3 => m_lines_read b hb.1 hb.2 a0 a2 a3 [a, b] 1 rfl
    simp only [List.map_cons, List.map_nil] at fz c1 c2
    have e21 : d_read_e2 = d_read_e1 := rfl
    have lk := fun r c => m_looked (zL r) (zL c)
    unfold d_read
    rw [e21]
    show _ = readP ((linesN a).bind fun r => (linesN b).map fun c => (r, c))
    cases q1 : linesN a with
    | none =>
      rw [q1] at c1
      simp only [mR] at c1
      simp [s_br, hsp, fz, c1, readP]
    | some r =>
      rw [q1] at c1
      simp only [mR] at c1
      cases q2 : linesN b with
      | none =>
        rw [q2] at c2
        simp only [mR] at c2
        simp [s_br, hsp, fz, c1, c2, gTuple, kidsS, readP]
      | some c =>
        rw [q2] at c2
        simp only [mR] at c2
        have lk := lk r c
        rw [bdD_zL] at lk
        simp [s_br, hsp, fz, c1, c2, gTuple, kidsS, RP.gTup, readP]
        cases q3 : lookedM (zL r) (zL c) with
        | ok x => rw [q3] at lk; simp [lk]
        | er x => rw [q3] at lk; simp [lk]
        | no => rw [q3] at lk; simp [lk]
  · have h2' : ¬ (L.length : Int) = 2 := by omega
    rw [boardP_ne h2]
    unfold d_read
    simp [s_br, hsp, fz, h2, h2', readP]
def wide2 (size : Int) (r : List Int) : Bool := !decide (r = []) && decide (r.sum + (r.length : Int) - 1 > size)
theorem wide_same (size : Int) (h : 0 ≤ size) (r : List Int) : wide2 size r = wideR size r := by
  unfold wide2 wideR
  cases r with
  | nil => simp; omega
  | cons x r =>
    have e : (if ((x :: r).length : Int) - 1 > 0 then ((x :: r).length : Int) - 1 else 0) = ((x :: r).length : Int) - 1 := by
      rw [List.length_cons]
      split <;> omega
    rw [e]
    simp
    omega
theorem badN_iff {n : Nat} : badN n = true ↔ n < 1 ∨ 12 < n := by
  unfold badN
  rw [Bool.not_eq_true', Bool.and_eq_false_iff, decide_eq_false_iff_not, decide_eq_false_iff_not]
  omega
theorem badN_no {n : Nat} : badN n = false ↔ 1 ≤ n ∧ n ≤ 12 := by
  rw [← Bool.not_eq_true, badN_iff]
  omega
abbrev tz (a : List (List Int)) : List PyData := a.map fun x => .tuple (x.map .int)
theorem RU_tz (r : List (List Nat)) : (r.map fun rs => RU rs) = tz (zL r) := (PyData.tuple.inj (TL_zL r)).symm
def dueZ (a b : List (List Int)) : PyData := if 12 < a.length ∨ 12 < b.length then .int 2 else if (a.any (wide2 b.length) || b.any (wide2 a.length)) = true then .int 4 else bdD a b
def dueP : Option (List (List Nat) × List (List Nat)) → PyData
  | none => .int 5
  | some (r, c) => dueZ (zL r) (zL c)
def dueN (t : List Nat) : PyData := dueP (boardN t)
theorem m_due_c (u : List Nat) (hu : ∀ c ∈ u, c < 128) (hl : u.length ≤ 9000) (a0 a1 a2 a3 a4 : Option Tr) : compL (tgN 5) none d_l_due_e1 [a0, a1, a2, a3, a4, none] ((splC 44 u).map fun y => .d (SD y)) = .ok ((splC 44 u).map fun y => .d (lnV (lineN y))) := by
  have hok := splC_ok (c := 44) hu hl
  exact compL_all (src := fun y : List Nat => .d (SD y)) (out := fun y : List Nat => .d (lnV (lineN y))) (splC 44 u) fun y hy => ⟨_, rfl, by
    have e := m_line_of y (hok y hy).1 (hok y hy).2
    unfold d_l_due_e1
    simp [e], by cases lineN y <;> rfl⟩
theorem m_due_l (u : List Nat) (hu : ∀ c ∈ u, c < 128) (hl : u.length ≤ 9000) (a0 a2 a3 a4 : Option Tr) (ps : List (List Nat)) (k : Int) (hk : atI ps k = some u) :
    dComp (dSrc true (dMeth isS gSplit (dBin gIdx (dVar 1) (dC (.int k))) (dC (.str ",")))) (tgN 5) [5] none d_l_due_e1 [a0, some (.d (.list (ps.map SD))), a2, a3, a4, none] = .ok (.ol ((splC 44 u).map fun y => .d (lnV (lineN y)))) := by
  have hsp := gSplit_C (c := 44) (t := u) (by decide) hl
  have hcnt : (splC 44 u).length ≤ u.length + 1 := (spl_count 44 u []).2
  have hc := m_due_c u hu hl
  have src := src_SDs (splC 44 u) true
  generalize splC 44 u = L at *
  have hl2 : L.length ≤ 100000 := by omega
  simp [s_cm, hsp, hk, src, hc, hl2]
theorem frz_lnV {α : Type} (f : α → Option (List Nat)) (L : List α) : frz (.ol (L.map fun y => Tr.d (lnV (f y)))) = .d (.list (L.map fun y => lnV (f y))) := frz_of (cleans_mapg (fun _ => rfl) _) (by
  show (datas _).map PyData.list = _
  rw [datas_mapg (f := fun y => Tr.d (lnV (f y))) (g := fun y => lnV (f y)) (fun _ => rfl) L]; rfl)
theorem m_due_b3 (a0 a1 x2 x5 : Option Tr) (C : List PyData) (r : List Int) : d_l_due_b3 [a0, a1, x2, some (.d (.list C)), some (.d (.tuple (r.map .int))), x5] = if wide2 C.length r then .rt (.d (.int 4)) [a0, a1, x2, some (.d (.list C)), some (.d (.tuple (r.map .int))), x5] else .nx [a0, a1, x2, some (.d (.list C)), some (.d (.tuple (r.map .int))), x5] := by
  unfold d_l_due_b3 wide2
  by_cases h1 : r = []
  · subst h1
    have := gNe_tnil []
    simp at this
    simp [RP.gTup, this]
  · by_cases h2 : r.sum + (r.length : Int) - 1 > (C.length : Int)
    · simp [RP.gTup, h1, gSumD, h2]
    · simp [RP.gTup, h1, gSumD, h2]
theorem m_due_b4 (a0 a1 x3 x5 : Option Tr) (C : List PyData) (r : List Int) : d_l_due_b4 [a0, a1, some (.d (.list C)), x3, some (.d (.tuple (r.map .int))), x5] = if wide2 C.length r then .rt (.d (.int 4)) [a0, a1, some (.d (.list C)), x3, some (.d (.tuple (r.map .int))), x5] else .nx [a0, a1, some (.d (.list C)), x3, some (.d (.tuple (r.map .int))), x5] := by
  unfold d_l_due_b4 wide2
  by_cases h1 : r = []
  · subst h1
    have := gNe_tnil []
    simp at this
    simp [RP.gTup, this]
  · by_cases h2 : r.sum + (r.length : Int) - 1 > (C.length : Int)
    · simp [RP.gTup, h1, gSumD, h2]
    · simp [RP.gTup, h1, gSumD, h2]
def d_due_r : DenS := (dSeq (dIf (dOrT (dB (dBin gGt (dUn gLen (dVar 2)) (dC (.int 12)))) (dB (dBin gGt (dUn gLen (dVar 3)) (dC (.int 12)))))
  (dRet (dLift (dC (.int 2))))
  dNext)
  (dSeq (dFor (dSrc false (dVar 2)) (tgN 4) d_l_due_b3)
  (dSeq (dFor (dSrc false (dVar 3)) (tgN 4) d_l_due_b4)
  (dRet (dLift (dPr gTup (dCons (dUn gTuple (dVar 2)) (dCons (dUn gTuple (dVar 3)) dNil))))))))
theorem m_due_r (a0 a1 : Option Tr) (a b : List (List Int)) : finD (d_due_r [a0, a1, some (.d (.list (tz a))), some (.d (.list (tz b))), none, none]) = .ok (.d (dueZ a b)) := by
  have la : (tz a).length = a.length := by simp [tz]
  have lb : (tz b).length = b.length := by simp [tz]
  have l3 := forL_any (T := tgN 4) (body := d_l_due_b3) (src := fun x : List Int => .d (.tuple (x.map .int))) (wide2 b.length) (fun en => ∃ v, en = [a0, a1, some (.d (.list (tz a))), some (.d (.list (tz b))), v, none]) (fun en => .rt (.d (.int 4)) en) (fun _ _ => rfl) a [a0, a1, some (.d (.list (tz a))), some (.d (.list (tz b))), none, none] ⟨none, rfl⟩ (fun r en _ hi => by
    obtain ⟨v, rfl⟩ := hi
    have e := m_due_b3 a0 a1 (some (.d (.list (tz a)))) none (tz b) r
    rw [lb] at e
    exact ⟨_, [a0, a1, some (.d (.list (tz a))), some (.d (.list (tz b))), some (.d (.tuple (r.map .int))), none], rfl, fun hb => ⟨e.trans (by rw [hb]; rfl), _, rfl⟩, fun hb => e.trans (by rw [hb]; rfl)⟩)
  have l4 := fun v : Option Tr => forL_any (T := tgN 4) (body := d_l_due_b4) (src := fun x : List Int => .d (.tuple (x.map .int))) (wide2 a.length) (fun en => ∃ v, en = [a0, a1, some (.d (.list (tz a))), some (.d (.list (tz b))), v, none]) (fun en => .rt (.d (.int 4)) en) (fun _ _ => rfl) b [a0, a1, some (.d (.list (tz a))), some (.d (.list (tz b))), v, none] ⟨v, rfl⟩ (fun r en _ hi => by
    obtain ⟨v, rfl⟩ := hi
    have e := m_due_b4 a0 a1 (some (.d (.list (tz b)))) none (tz a) r
    rw [la] at e
    exact ⟨_, [a0, a1, some (.d (.list (tz a))), some (.d (.list (tz b))), some (.d (.tuple (r.map .int))), none], rfl, fun hb => ⟨e.trans (by rw [hb]; rfl), _, rfl⟩, fun hb => e.trans (by rw [hb]; rfl)⟩)
  have src : ∀ q : List (List Int), srcItems false (.d (.list (tz q))) = some (q.map fun x => .d (.tuple (x.map .int))) := fun q => by simp [srcItems, tz]
  have tu : ∀ q : List (List Int), gTuple [.d (.list (tz q))] = some (.d (TL q)) := fun q => by simp [gTuple, tz]
  unfold d_due_r dueZ
  by_cases h1 : 12 < a.length
  · have h1' : (12 : Int) < (a.length : Int) := by omega
    rw [if_pos (.inl h1)]
    simp [la, h1, h1']
  · have h1' : ¬ (12 : Int) < (a.length : Int) := by omega
    by_cases h2 : 12 < b.length
    · have h2' : (12 : Int) < (b.length : Int) := by omega
      rw [if_pos (.inr h2)]
      simp [la, lb, h1, h1', h2, h2']
    · have h2' : ¬ (12 : Int) < (b.length : Int) := by omega
      rw [if_neg (fun z => z.elim h1 h2)]
      have sa := src a
      have sb := src b
      have ta := tu a
      have tb := tu b
      generalize tz a = za at *
      generalize tz b = zb at *
      cases w1 : a.any (wide2 b.length) with
      | true =>
        obtain ⟨en2, e⟩ := l3.1 w1
        simp [la, lb, h1, h1', h2, h2', sa, sb, e]
      | false =>
        obtain ⟨en2, e, v, rfl⟩ := l3.2 w1
        cases w2 : b.any (wide2 a.length) with
        | true =>
          obtain ⟨en3, e3⟩ := (l4 v).1 w2
          simp [la, lb, h1, h1', h2, h2', sa, sb, e, e3]
        | false =>
          obtain ⟨en3, e3, v3, rfl⟩ := (l4 v).2 w2
          simp [la, lb, h1, h1', h2, h2', sa, sb, e, e3, RP.gTup, ta, tb]
theorem m_due (t : List Nat) (ht : ∀ c ∈ t, c < 128) (hl : t.length ≤ 9000) : D_l_due [.d (SD t)] = .ok (.d (dueN t)) := by
  have hsp := gSplit_C (c := 124) (t := t) (by decide) hl
  have hok := splC_ok (c := 124) ht hl
  have fz := frz_SDs (splC 124 t)
  unfold dueN
  rw [boardN_P]
  unfold D_l_due
  rw [e_def1]
  generalize splC 124 t = L at *
  by_cases h2 : L.length = 2
  · obtain ⟨a, b, rfl⟩ : ∃ a b, L = [a, b] := by
      match L, h2 with
      | [a, b], _ => exact ⟨a, b, rfl⟩
    have ha := hok a List.mem_cons_self
    have hb := hok b (List.mem_cons_of_mem _ List.mem_cons_self)
    have c1 := fun a0 a2 a3 a4 => m_due_l a ha.1 ha.2 a0 a2 a3 a4 [a, b] 0 rfl
    have c2 := fun a0 a2 a3 a4 => m_due_l b hb.1 hb.2 a0 a2 a3 a4 [a, b] 1 rfl
    simp only [List.map_cons, List.map_nil] at fz c1 c2
    have e21 : d_l_due_e2 = d_l_due_e1 := rfl
    have f1 := frz_lnV lineN (splC 44 a)
    have f2 := frz_lnV lineN (splC 44 b)
    have g1 := gIn_none lineN (splC 44 a)
    have g2 := gIn_none lineN (splC 44 b)
    show finD (dSeq (dSet true 1 (dMeth isS gSplit (dVar 0) (dC (.str "|"))))
      (dSeq (dIf (dB (dBin gNe (dUn gLen (dVar 1)) (dC (.int 2))))
      (dRet (dLift (dC (.int 5))))
      dNext)
      (dSeq (dSet true 2 (dComp (dSrc true (dMeth isS gSplit (dBin gIdx (dVar 1) (dC (.int 0))) (dC (.str ",")))) (tgN 5) [5] none d_l_due_e1))
      (dSeq (dSet true 3 (dComp (dSrc true (dMeth isS gSplit (dBin gIdx (dVar 1) (dC (.int 1))) (dC (.str ",")))) (tgN 5) [5] none d_l_due_e1))
      (dSeq (dIf (dOrT (dB (dBin gIn (dC .none) (dVar 2))) (dB (dBin gIn (dC .none) (dVar 3))))
      (dRet (dLift (dC (.int 5))))
      dNext) d_due_r)))) _) = .ok (.d (dueP ((linesN a).bind fun r => (linesN b).map fun c => (r, c))))
    generalize (dComp (dSrc true (dMeth isS gSplit (dBin gIdx (dVar 1) (dC (.int 0))) (dC (.str ",")))) (tgN 5) [5] none d_l_due_e1) = D1 at c1 ⊢
    generalize (dComp (dSrc true (dMeth isS gSplit (dBin gIdx (dVar 1) (dC (.int 1))) (dC (.str ",")))) (tgN 5) [5] none d_l_due_e1) = D2 at c2 ⊢
    have u1 : mapO lineN (splC 44 a) = linesN a := rfl
    have u2 : mapO lineN (splC 44 b) = linesN b := rfl
    rw [u1] at g1
    rw [u2] at g2
    cases q1 : linesN a with
    | none =>
      rw [q1] at g1
      simp at g1
      simp [s_br, hsp, fz, c1, c2, f1, f2, g1, dueP]
    | some r =>
      rw [q1] at g1
      simp at g1
      cases q2 : linesN b with
      | none =>
        rw [q2] at g2
        simp at g2
        simp [s_br, hsp, fz, c1, c2, f1, f2, g1, g2, dueP]
      | some c =>
        rw [q2] at g2
        simp at g2
        have m1 := map_lnV (u1.trans q1)
        have m2 := map_lnV (u2.trans q2)
        rw [RU_tz] at m1 m2
        have lst := fun a0 a1 => m_due_r a0 a1 (zL r) (zL c)
        rw [m1] at f1 g1
        rw [m2] at f2 g2
        generalize tz (zL r) = za at *
        generalize tz (zL c) = zb at *
        generalize d_due_r = dr at *
        simp [s_br, hsp, fz, c1, c2, f1, f2, g1, g2, lst, dueP]
  · have h2' : ¬ (L.length : Int) = 2 := by omega
    rw [boardP_ne h2]
    unfold d_l_due
    simp [s_br, hsp, fz, h2, h2', dueP]
theorem wordL_128 {rs : List Nat} : ∀ c ∈ wordL rs, c < 128 := fun c hc => by
  rcases wordL_mem hc with z | z <;> omega
theorem textL_128 {b : List (List Nat)} : ∀ c ∈ textL b, c < 128 := fun c hc => by
  rcases textL_mem hc with z | z | z <;> omega
theorem boardL_128 {br bc : List (List Nat)} : ∀ c ∈ boardL br bc, c < 128 := fun c hc => by
  rcases List.mem_append.mp hc with z | z
  · exact textL_128 c z
  · rcases List.mem_cons.mp z with y | y
    · omega
    · exact textL_128 c y
theorem textL20_len {b : List (List Nat)} (h : ∀ rs ∈ b, okR rs) (hl : b.length ≤ 20) : (textL b).length ≤ 800 := by
  unfold textL
  have h1 := joinL_len (B := 39) [44] (b.map wordL) fun y hy => by
    obtain ⟨r, hr, rfl⟩ := List.mem_map.mp hy
    exact wordL_len (h r hr)
  rw [List.length_map] at h1
  have h2 : b.length * (39 + 1) ≤ 20 * (39 + 1) := Nat.mul_le_mul_right _ hl
  exact Nat.le_trans h1 h2
theorem m_text_b2 (words : List (List Nat)) (hw : words.length ≤ 100) (rs : List Nat) (h : okR rs) (a0 a1 a2 x5 : Option Tr) :
    ∃ x5', d_l_text_b2 [a0, a1, a2, some (.ol (words.map fun w => .d (SD w))), some (.d (RU rs)), x5, none] = .nx [a0, a1, a2, some (.ol ((words ++ [wordL rs]).map fun w => .d (SD w))), some (.d (RU rs)), x5', none] := by
  have hc : ∀ a b c d e f, compL (tgN 6) none d_l_text_e1 [a, b, c, d, e, f, none] (rs.map fun r : Nat => .d (.int (r : Int))) = .ok (rs.map fun r : Nat => .d (SD (nL r))) := fun a b c d e f =>
    compL_all (src := fun r : Nat => .d (.int (r : Int))) (out := fun r : Nat => .d (SD (nL r))) rs fun r hr => ⟨_, rfl, by
      have e := gStr_n r (h.1 r hr).2
      unfold d_l_text_e1
      simp [e], rfl⟩
  have j := gJoin_S [32] (rs.map nL) (by decide) (fun y hy => by
    obtain ⟨r, hr, rfl⟩ := List.mem_map.mp hy
    have := nL_len (h.1 r hr).2
    omega) (by rw [List.length_map]; have := h.2; omega)
  rw [List.map_map] at j
  have j : gJoinD [SD [32], .list (rs.map fun r => SD (nL r))] = some (SD (jL [32] (rs.map nL))) := j
  have hl : rs.length ≤ 100000 := by have := h.2; omega
  have hsz : words.length < 100000 := by omega
  have ge : gEq [.d (RU rs), .d (.tuple [])] = some (.d (.bool (decide (rs = [])))) :=
    gEq_data (x := RU rs) (y := .tuple []) rfl rfl (shk_RU 39 _) rfl (pln_RU _) rfl (by
      rw [decide_eq_true_eq]
      exact ⟨fun z => by rw [z]; rfl, fun z => List.map_eq_nil_iff.mp (PyData.tuple.inj z)⟩)
  unfold wordL
  by_cases h0 : rs = []
  · subst h0
    refine ⟨some (.d (SD [48])), ?_⟩
    unfold d_l_text_b2
    simp at hc j ge
    simp [srcItems, hc, hl, s_sp, s_0, j, ge, RP.gTup, isOl, chg, hsz]
  · rw [decide_eq_false h0] at ge
    rw [if_neg h0]
    refine ⟨some (.d (SD (jL [32] (rs.map nL)))), ?_⟩
    unfold d_l_text_b2
    simp [srcItems, hc, hl, s_sp, s_0, j, ge, RP.gTup, isOl, chg, hsz]
theorem gAdd_SD (a b : List Nat) (ha : a.length ≤ 1000) (hb : b.length ≤ 1000) : gAdd [.d (SD a), .d (SD b)] = some (.d (SD (a ++ b))) := by
  show (if (SX.S a).length + (SX.S b).length ≤ 100000 then some (PyData.str (SX.S a ++ SX.S b)) else none).map Tr.d = _
  rw [SX.S_len, SX.S_len, if_pos (by omega), SX.S_cat]
  rfl
theorem m_text_b3 (parts : List (List Nat)) (hp : parts.length ≤ 100) (b : List (List Nat)) (h : ∀ rs ∈ b, okR rs) (hb : b.length ≤ 20) (a0 x3 x4 x5 : Option Tr) :
    ∃ x3' x4' x5', d_l_text_b3 [a0, some (.ol (parts.map fun w => .d (SD w))), some (.d (.tuple (b.map fun rs => RU rs))), x3, x4, x5, none] = .nx [a0, some (.ol ((parts ++ [textL b]).map fun w => .d (SD w))), some (.d (.tuple (b.map fun rs => RU rs))), x3', x4', x5', none] := by
  obtain ⟨en', h1, x4', x5', h2⟩ := forL_idx0 (T := tgN 4) (body := d_l_text_b2) (src := fun rs : List Nat => .d (RU rs))
    (fun j en => ∃ x4 x5 : Option Tr, en = [a0, some (.ol (parts.map fun w => .d (SD w))), some (.d (.tuple (b.map fun rs => RU rs))), some (.ol (((b.take j).map wordL).map fun w => .d (SD w))), x4, x5, none]) b
    [a0, some (.ol (parts.map fun w => .d (SD w))), some (.d (.tuple (b.map fun rs => RU rs))), some (.ol []), x4, x5, none] ⟨x4, x5, rfl⟩ (fun j rs en hk hI => by
      obtain ⟨x4, x5, rfl⟩ := hI
      have hm := List.mem_of_getElem? hk
      have hj := (List.getElem?_eq_some_iff.mp hk).1
      obtain ⟨x5', e⟩ := m_text_b2 ((b.take j).map wordL) (by rw [List.length_map, List.length_take]; omega) rs (h rs hm) a0 (some (.ol (parts.map fun w => .d (SD w)))) (some (.d (.tuple (b.map fun rs => RU rs)))) x5
      refine ⟨_, _, rfl, .inl e, some (.d (RU rs)), x5', ?_⟩
      have e2 : b.take (j + 1) = b.take j ++ [rs] := by
        rw [List.take_add_one, hk]; rfl
      rw [e2, List.map_append (f := wordL)]
      rfl)
  rw [List.take_length] at h2
  subst h2
  have j := gJoin_S [44] (b.map wordL) (by decide) (fun y hy => by
    obtain ⟨rs, hrs, rfl⟩ := List.mem_map.mp hy
    have := wordL_len (h rs hrs)
    omega) (by rw [List.length_map]; omega)
  rw [List.map_map] at j
  have j : gJoinD [SD [44], .list (b.map fun rs => SD (wordL rs))] = some (SD (textL b)) := j
  have src : srcItems false (.d (.tuple (b.map fun rs => RU rs))) = some (b.map fun rs => .d (RU rs)) := by simp [srcItems]
  have hsz : parts.length < 100000 := by omega
  refine ⟨some (.ol ((b.map wordL).map fun w => .d (SD w))), x4', x5', ?_⟩
  unfold d_l_text_b3
  simp at h1
  simp [RP.gLst, src, h1, s_cm, j, isOl, chg, hsz]
theorem m_text (br bc : List (List Nat)) (hr : ∀ rs ∈ br, okR rs) (hc : ∀ rs ∈ bc, okR rs) (lr : br.length ≤ 20) (lc : bc.length ≤ 20) : D_l_text [.d (BD br bc)] = .ok (.d (SD (boardL br bc))) := by
  obtain ⟨a3, a4, a5, e1⟩ := m_text_b3 [] (by simp) br hr lr (some (.d (BD br bc))) none none none
  obtain ⟨b3, b4, b5, e2⟩ := m_text_b3 [textL br] (by simp) bc hc lc (some (.d (BD br bc))) a3 a4 a5
  have loop : forL (tgN 2) d_l_text_b3 [.d (.tuple (br.map fun rs => RU rs)), .d (.tuple (bc.map fun rs => RU rs))] [some (.d (BD br bc)), some (.ol []), none, none, none, none, none]
      = .nx [some (.d (BD br bc)), some (.ol [.d (SD (textL br)), .d (SD (textL bc))]), some (.d (.tuple (bc.map fun rs => RU rs))), b3, b4, b5, none] := by
    show loopR (d_l_text_b3 [some (.d (BD br bc)), some (.ol []), some (.d (.tuple (br.map fun rs => RU rs))), none, none, none, none]) _ = _
    have e1 : d_l_text_b3 [some (.d (BD br bc)), some (.ol []), some (.d (.tuple (br.map fun rs => RU rs))), none, none, none, none] = _ := e1
    rw [e1, loopR_nx]
    show loopR (d_l_text_b3 [some (.d (BD br bc)), some (.ol [.d (SD (textL br))]), some (.d (.tuple (bc.map fun rs => RU rs))), a3, a4, a5, none]) _ = _
    have e2 : d_l_text_b3 [some (.d (BD br bc)), some (.ol [.d (SD (textL br))]), some (.d (.tuple (bc.map fun rs => RU rs))), a3, a4, a5, none] = _ := e2
    rw [e2, loopR_nx]
    rfl
  have hr' := textL20_len hr lr
  have hc' := textL20_len hc lc
  have g1 := gAdd_SD (textL br) [124] (by omega) (by simp)
  have g2 := gAdd_SD (textL br ++ [124]) (textL bc) (by rw [List.length_append, List.length_singleton]; omega) (by omega)
  have eb : textL br ++ [124] ++ textL bc = boardL br bc := by
    rw [List.append_assoc]; rfl
  rw [eb] at g2
  have j0 : ∀ x y : PyData, atI [x, y] 0 = some x := fun x y => rfl
  have j1 : ∀ x y : PyData, atI [x, y] 1 = some y := fun x y => rfl
  generalize textL br = tr at *
  generalize textL bc = tc at *
  generalize tr ++ [124] = u at *
  unfold D_l_text
  rw [e_def1]
  unfold d_l_text
  simp [RP.gLst, srcItems, loop, s_br, j0, j1, g1, g2]
theorem m_l_lines_c (a b c : Option Tr) (r : List Int) : compL (tgN 3) none d_l_lines_e1 [a, b, c, none] (r.map fun i => .d (.int i)) = .ok (r.map fun i => .d (.bool true)) :=
  compL_all (src := fun i : Int => .d (.int i)) (out := fun i : Int => .d (.bool true)) r fun i _ => ⟨_, rfl, by
    unfold d_l_lines_e1
    simp, rfl⟩
theorem m_l_lines (p : List (List Int)) (hp : p.length ≤ 1000) (hl : ∀ r ∈ p, r.length ≤ 90000) : D_l_lines [.d (TL p), .d (TL p)] = .ok (.d (.bool true)) := by
  have hr := rgOk_nat (n := p.length) (by omega)
  obtain ⟨en', h1, k', h2⟩ := forL_idx0 (T := tgN 2) (body := d_l_lines_b2) (src := fun k : Nat => .d (.int (k : Int)))
    (fun n en => ∃ k', en = [some (.d (TL p)), some (.d (TL p)), k', none]) (List.range p.length) [some (.d (TL p)), some (.d (TL p)), none, none] ⟨none, rfl⟩ (fun i a en ha hi => by
      obtain ⟨rfl, hlt⟩ := range_get ha
      obtain ⟨k', rfl⟩ := hi
      have hat : atI p (a : Int) = some p[a] := by rw [RP.atI_nat, List.getElem?_eq_getElem hlt]
      have hsz : (p[a]).length ≤ 100000 := by have := hl p[a] (List.getElem_mem hlt); omega
      refine ⟨_, _, rfl, .inl ?_, some (.d (.int a)), rfl⟩
      unfold d_l_lines_b2
      have hne : gNe [.d (.tuple ((p[a]).map .int)), .d (.tuple ((p[a]).map .int))] = some (.d (.bool false)) := gNe_data (data_d _) (data_d _) (shk_tints 39 _) (shk_tints 39 _) (pln_tints _) (pln_tints _) (b := true) (by simp)
      simp [hat, hne, m_l_lines_c, srcItems, hsz])
  subst h2
  unfold D_l_lines
  rw [e_def2]
  unfold d_l_lines
  simp [hr, h1]
/-- a text that the law may ask of -/
def okT (t : List Nat) : Prop := (∀ c ∈ t, c < 128) ∧ t.length ≤ 4000
theorem gCut_to (a : List Nat) (i : Int) (h : 0 ≤ i) (hl : a.length ≤ 9000) : gCut (.d (SD a)) none (some i) = some (.d (SD (a.take i.toNat))) := by
  show (if (SX.S a).length ≤ 100000 then some (Tr.d (.str (cutS (SX.S a) none (some i)))) else none) = _
  rw [SX.S_len, if_pos (by omega), _root_.C8.cutS_slice, SX.slice_to h]; rfl
theorem gCut_from (a : List Nat) (i : Int) (h : 0 ≤ i) (hl : a.length ≤ 9000) : gCut (.d (SD a)) (some i) none = some (.d (SD (a.drop i.toNat))) := by
  show (if (SX.S a).length ≤ 100000 then some (Tr.d (.str (cutS (SX.S a) (some i) none))) else none) = _
  rw [SX.S_len, if_pos (by omega), _root_.C8.cutS_slice, SX.slice_from h]; rfl
theorem gAdd_SDt (a b : List Nat) (ha : a.length ≤ 9000) (hb : b.length ≤ 9000) : gAdd [.d (SD a), .d (SD b)] = some (.d (SD (a ++ b))) := by
  show (if (SX.S a).length + (SX.S b).length ≤ 100000 then some (PyData.str (SX.S a ++ SX.S b)) else none).map Tr.d = _
  rw [SX.S_len, SX.S_len, if_pos (by omega), SX.S_cat]
  rfl
theorem okT_app {a b : List Nat} {n m : Nat} (ha : ∀ c ∈ a, c < 128) (hb : ∀ c ∈ b, c < 128) (la : a.length ≤ n) (lb : b.length ≤ m) (h : n + m ≤ 4000) : okT (a ++ b) :=
  ⟨fun c hc => (List.mem_append.mp hc).elim (ha c) (hb c), by rw [List.length_append]; omega⟩
theorem str_SD (z : Str) : PyData.str z = SD z.cps.toList := rfl
/-- constants -/
def okZ (z : Str) : Bool := z.cps.toList.all (fun c => decide (c < 128)) && decide (z.cps.toList.length ≤ 10)
theorem okZ_of {z : Str} (h : okZ z = true) : (∀ c ∈ z.cps.toList, c < 128) ∧ z.cps.toList.length ≤ 10 := by
  unfold okZ at h
  rw [Bool.and_eq_true, List.all_eq_true, decide_eq_true_eq] at h
  exact ⟨fun c hc => by simpa using h.1 c hc, h.2⟩
theorem pick_z (ws : List Str) (hw : ws.all okZ = true) (i : Int) (h0 : 0 ≤ i) (h1 : i < ws.length) : ∃ l, atI (ws.map fun z => Tr.d (.str z)) i = some (.d (SD l)) ∧ (∀ c ∈ l, c < 128) ∧ l.length ≤ 10 := by
  rw [atI_nn _ _ h0, List.getElem?_map]
  have hlt : i.toNat < ws.length := by omega
  rw [List.getElem?_eq_getElem hlt]
  have := okZ_of (List.all_eq_true.mp hw _ (List.getElem_mem hlt))
  exact ⟨_, rfl, this⟩
theorem gIdx_SDi (l : List Nat) (i : Int) (h : l.length ≤ 9000) : gIdx [.d (SD l), .d (.int i)] = (atI l i).map fun c => Tr.d (SD [c]) := by
  show (if (SX.S l).length ≤ 100000 then (atI l i).map fun c => Tr.d (SD [c]) else none) = _
  rw [SX.S_len, if_pos (by omega)]
theorem put_z (i : Int) (h0 : 0 ≤ i) (h1 : i < 14) : ∃ l, gIdx [.d (.str (Str.ofString " ,|0129-+_.a;1")), .d (.int i)] = some (.d (SD l)) ∧ (∀ c ∈ l, c < 128) ∧ l.length ≤ 10 := by
  have e : PyData.str (Str.ofString " ,|0129-+_.a;1") = SD [32, 44, 124, 48, 49, 50, 57, 45, 43, 95, 46, 97, 59, 49] := SD_of (by decide +kernel)
  have h128 : ∀ x ∈ [32, 44, 124, 48, 49, 50, 57, 45, 43, 95, 46, 97, 59, 49], x < 128 := by decide
  have hl : [32, 44, 124, 48, 49, 50, 57, 45, 43, 95, 46, 97, 59, 49].length = 14 := rfl
  rw [e]
  generalize [32, 44, 124, 48, 49, 50, 57, 45, 43, 95, 46, 97, 59, 49] = L at *
  rw [gIdx_SDi L i (by omega), atI_nn _ _ h0, List.getElem?_eq_getElem (show i.toNat < L.length by omega)]
  refine ⟨[L[i.toNat]], rfl, fun c hc => ?_, by simp⟩
  rw [List.mem_singleton.mp hc]
  exact h128 _ (List.getElem_mem _)
theorem m_odd (i : Int) : ∃ l, D_l_odd [.d (.int i)] = .ok (.d (SD l)) ∧ okT l := by
  obtain ⟨l, e, h1, h2⟩ := pick_z [Str.ofString "", Str.ofString "|", Str.ofString "0|", Str.ofString "|0", Str.ofString "0", Str.ofString "0|0|0", Str.ofString "0 |0", Str.ofString "0|0 ", Str.ofString "0,|0", Str.ofString "1|1,"] (by decide +kernel) (i % 10) (Int.emod_nonneg _ (by omega)) (Int.emod_lt_of_pos _ (by simp))
  refine ⟨l, ?_, h1, by omega⟩
  unfold D_l_odd
  rw [e_def1]
  unfold d_l_odd
  simp only [List.map_cons, List.map_nil] at e
  simp [RP.gLst, e]
theorem m_refused : ∀ cw ∈ ([("TooMany", 2), ("NoNote", 5), ("Wide", 4)] : List (Str × Int)), D_l_refused [.e (.list ((marksOf cw.1).map .bool)), .d (.int cw.2)] = .ok (.d (.bool true)) := by
  intro cw h
  simp only [List.mem_cons, List.not_mem_nil, or_false] at h
  rcases h with rfl | rfl | rfl <;> rfl
theorem m_told_er (t : List Nat) (c : Str) (h : D_read [.d (SD t)] = .er c) (hc : c ∈ errL) : D_l_told [.d (SD t)] = .ok (.d (.tuple [.none, .list ((marksOf c).map .bool)])) := by
  unfold D_l_told
  rw [e_def1]
  unfold d_l_told
  simp [RP.gLst, dTry, h, RP.gTup, frz_olg, hc, marksT]
theorem m_told_ok (t : List Nat) (x : List PyData) (hp : lf (.tuple x) = true) (h : D_read [.d (SD t)] = .ok (.d (.tuple x))) : D_l_told [.d (SD t)] = .ok (.d (.tuple [.tuple x, .list []])) := by
  unfold D_l_told
  rw [e_def1]
  unfold d_l_told
  simp [RP.gLst, dTry, h, RP.gTup, frz_olg]
/-- what a text writes -/
inductive Rd (t : List Nat) : Prop
  | er (c : Str) (w : Int) (h : (c, w) ∈ ([("TooMany", 2), ("NoNote", 5), ("Wide", 4)] : List (Str × Int))) (hr : D_read [.d (SD t)] = .er c) (hd : D_l_due [.d (SD t)] = .ok (.d (.int w)))
  | ok (a b : List (List Int)) (ha : a.length ≤ 12) (hb : b.length ≤ 12) (la : ∀ x ∈ a, x.length ≤ 90000) (lb : ∀ x ∈ b, x.length ≤ 90000) (hr : D_read [.d (SD t)] = .ok (.d (bdD a b))) (hd : D_l_due [.d (SD t)] = .ok (.d (bdD a b)))
theorem zL_badR {r : List (List Nat)} (h : ∀ rs ∈ r, ∀ n ∈ rs, 0 < n) : (zL r).any badR = false := by
  rw [List.any_eq_false]
  intro x hx
  obtain ⟨rs, hrs, rfl⟩ := List.mem_map.mp hx
  unfold badR
  rw [Bool.not_eq_true, List.any_eq_false]
  intro y hy
  obtain ⟨n, hn, rfl⟩ := List.mem_map.mp hy
  have := h rs hrs n hn
  simp; omega
theorem linesN_len {u : List Nat} {N : Nat} (hu : ∀ c ∈ u, c < 128) (hl : u.length ≤ N) {r : List (List Nat)} (h : linesN u = some r) : ∀ x ∈ zL r, x.length ≤ N + 1 := fun x hx => by
  obtain ⟨rs, hrs, rfl⟩ := List.mem_map.mp hx
  obtain ⟨y, hy, e⟩ := mapO_mem h rs hrs
  have h1 := (splC_ok (c := 44) hu hl y hy).2
  have h2 := lineN_len e
  rw [List.length_map]
  omega
theorem rd (t : List Nat) (ht : ∀ c ∈ t, c < 128) (hl : t.length ≤ 9000) : Rd t := by
  have e1 := m_read t ht hl
  have e2 := m_due t ht hl
  have hok := splC_ok (c := 124) ht hl
  cases q : boardN t with
  | none =>
    unfold readN at e1
    unfold dueN at e2
    rw [q] at e1 e2
    exact .er "NoNote" 5 (by simp) e1 e2
  | some p =>
    obtain ⟨r, c⟩ := p
    unfold readN at e1
    unfold dueN at e2
    rw [q] at e1 e2
    have e1 : D_read [.d (SD t)] = (lookedM (zL r) (zL c)).bind fun _ => .ok (.d (BD r c)) := e1
    have e2 : D_l_due [.d (SD t)] = .ok (.d (dueZ (zL r) (zL c))) := e2
    unfold boardN at q
    split at q
    · rename_i a b hs
      rw [hs] at hok
      have ha := hok a List.mem_cons_self
      have hb := hok b (List.mem_cons_of_mem _ List.mem_cons_self)
      obtain ⟨r', q1, q2⟩ := Option.bind_eq_some_iff.mp q
      obtain ⟨c', q3, q4⟩ := Option.map_eq_some_iff.mp q2
      cases q4
      have p1 := zL_badR (linesN_pos q1)
      have p2 := zL_badR (linesN_pos q3)
      have n1 := linesN_ne q1
      have n2 := linesN_ne q3
      have l1 := linesN_len ha.1 ha.2 q1
      have l2 := linesN_len hb.1 hb.2 q3
      rw [← bdD_zL] at e1
      have n1 : 0 < (zL r).length := by unfold zL; rw [List.length_map]; exact n1
      have n2 : 0 < (zL c).length := by unfold zL; rw [List.length_map]; exact n2
      generalize zL r = A at *
      generalize zL c = B at *
      unfold lookedM at e1
      rw [p1, p2] at e1
      unfold dueZ at e2
      have w1 : A.any (wide2 B.length) = A.any (wideR B.length) := by
        rw [show wide2 (B.length : Int) = wideR (B.length : Int) from funext fun r => wide_same _ (by omega) r]
      have w2 : B.any (wide2 A.length) = B.any (wideR A.length) := by
        rw [show wide2 (A.length : Int) = wideR (A.length : Int) from funext fun r => wide_same _ (by omega) r]
      rw [w1, w2] at e2
      by_cases hm : 12 < A.length ∨ 12 < B.length
      · rw [if_pos hm] at e2
        have : (badN A.length || badN B.length) = true := by
          rw [Bool.or_eq_true, badN_iff, badN_iff]
          omega
        rw [this, if_pos rfl] at e1
        exact .er "TooMany" 2 (by simp) e1 e2
      · rw [if_neg hm] at e2
        have : (badN A.length || badN B.length) = false := by
          rw [Bool.or_eq_false_iff, badN_no, badN_no]
          omega
        rw [this, if_neg (by decide), if_neg (by decide)] at e1
        cases w : A.any (wideR B.length) || B.any (wideR A.length) with
        | true =>
          rw [w, if_pos rfl] at e1 e2
          exact .er "Wide" 4 (by simp) e1 e2
        | false =>
          rw [w, if_neg (by decide)] at e1 e2
          exact .ok A B (by omega) (by omega) (fun x hx => by have := l1 x hx; omega) (fun x hx => by have := l2 x hx; omega) e1 e2
    · cases q
theorem ist_t (x : List PyData) : gIsi "tuple" [.d (.tuple x)] = some (.d (.bool true)) := by
  have : kitB "tuple" "tuple" = some true := by decide +kernel
  simp [gIsi, tyOf, this]
theorem ist_i (i : Int) : gIsi "tuple" [.d (.int i)] = some (.d (.bool false)) := by
  have : kitB "int" "tuple" = some false := by decide +kernel
  simp [gIsi, tyOf, this]
theorem m_r3 (t : List Nat) (ht : okT t) (x0 x1 x3 x4 x5 : Option Tr) : finD (d_law_r3 [x0, x1, some (.d (SD t)), x3, x4, x5, none, none]) = .ok (.d (.bool true)) := by
  have h1 := ht.2
  unfold d_law_r3
  rcases rd t ht.1 (by omega) with ⟨c, w, h, hr, hd⟩ | ⟨a, b, ha, hb, la, lb, hr, hd⟩
  · have ref := m_refused (c, w) h
    have hc : c ∈ errL := by
      simp only [List.mem_cons, List.not_mem_nil, or_false, Prod.mk.injEq] at h
      rcases h with ⟨rfl, _⟩ | ⟨rfl, _⟩ | ⟨rfl, _⟩ <;> decide
    have tl := m_told_er t c hr hc
    have ref : D_l_refused [.e (.list ((marksOf c).map .bool)), .d (.int w)] = .ok (.d (.bool true)) := ref
    generalize d_law_r2 = r2 at *
    try simp at ref tl
    simp [hd, tl, ist_i, ref]
  · have tl := m_told_ok t [TL a, TL b] (by simp) hr
    have l1 := m_l_lines a (by omega) la
    have l2 := m_l_lines b (by omega) lb
    have e0 : gNe [.d (.list []), .ol []] = some (.d (.bool false)) := rfl
    have j0 : ∀ x y : PyData, atI [x, y] 0 = some x := fun x y => rfl
    have j1 : ∀ x y : PyData, atI [x, y] 1 = some y := fun x y => rfl
    have hd : D_l_due [.d (SD t)] = .ok (.d (.tuple [TL a, TL b])) := hd
    have ma : mkE (TL a) = .d (TL a) := by simp
    have mb : mkE (TL b) = .d (TL b) := by simp
    generalize TL a = A at *
    generalize TL b = B at *
    simp [hd, tl, ist_t]
    unfold d_law_r2
    simp [e0, RP.gLst, ist_t]
    unfold d_law_r1
    simp [l1, l2, ma, mb]
theorem split20 (b : List (List Nat)) (h : ∀ rs ∈ b, okR rs) (hl : b.length ≤ 20) (h0 : b ≠ []) : gSplit [.d (SD (textL b)), .d (SD [44])] = some (.ol ((b.map wordL).map fun w => .d (SD w))) := by
  have hlen := textL20_len h hl
  exact gSplit_join 44 (b.map wordL) (by decide) (fun z => h0 (List.map_eq_nil_iff.mp z)) (fun y hy => by
    obtain ⟨r, hr, rfl⟩ := List.mem_map.mp hy
    intro z
    have := wordL_mem z
    omega) (by show (textL b).length ≤ _; omega)
theorem ixN_in {n : Nat} {k : Int} (h0 : 0 ≤ k) (h1 : k < n) : ixN n k = some k.toNat := by
  unfold ixN
  rw [if_pos h0, if_pos h1]
theorem set_SD (ws : List (List Nat)) (j : Nat) (o : List Nat) : (ws.map fun w => Tr.d (SD w)).set j (.d (SD o)) = (ws.set j o).map fun w => Tr.d (SD w) := (List.map_set).symm
def oddsZ : List Str := [Str.ofString "", Str.ofString "0", Str.ofString "00", Str.ofString "01", Str.ofString "1 0", Str.ofString "0 1", Str.ofString " 1", Str.ofString "1 ", Str.ofString "1  1", Str.ofString "+1", Str.ofString "1_0", Str.ofString "-1", Str.ofString "999", Str.ofString "1000", Str.ofString "1.", Str.ofString "a"]
theorem m_lined_g (t p0 p1 : List Nat) (b : List (List Nat)) (hb : ∀ rs ∈ b, okR rs) (lb : b.length ≤ 20) (b0 : b ≠ []) (h0 : (∀ c ∈ p0, c < 128) ∧ p0.length ≤ 1000) (h1 : (∀ c ∈ p1, c < 128) ∧ p1.length ≤ 1000)
    (hsp : gSplit [.d (SD t), .d (SD [124])] = some (.ol [.d (SD p0), .d (SD p1)])) (u v : Int) (hu : (u % 2 = 0 ∧ p0 = textL b) ∨ (u % 2 = 1 ∧ p1 = textL b)) : ∃ l, D_l_lined [.d (SD t), .d (.int u), .d (.int v)] = .ok (.d (SD l)) ∧ okT l := by
  obtain ⟨o, eo, o1, o2⟩ := pick_z oddsZ (by decide +kernel) (v % 16) (Int.emod_nonneg _ (by omega)) (Int.emod_lt_of_pos _ (by simp [oddsZ]))
  have s2 := split20 b hb lb b0
  have hw : ∀ w ∈ b.map wordL, (∀ c ∈ w, c < 128) ∧ w.length ≤ 39 := fun w hw => by
    obtain ⟨r, hr, rfl⟩ := List.mem_map.mp hw
    exact ⟨wordL_128, wordL_len (hb r hr)⟩
  have hwl : 0 < (b.map wordL).length := by rw [List.length_map]; exact List.length_pos_iff.mpr b0
  have hwl2 : (b.map wordL).length ≤ 20 := by rw [List.length_map]; exact lb
  generalize b.map wordL = ws at *
  have k0 : 0 ≤ u / 2 % (ws.length : Int) := Int.emod_nonneg _ (by omega)
  have k1 : u / 2 % (ws.length : Int) < ws.length := Int.emod_lt_of_pos _ (by omega)
  have ix := ixN_in k0 k1
  generalize hk : u / 2 % (ws.length : Int) = k at *
  obtain ⟨ws', hws'⟩ : ∃ ws', ws' = ws.set k.toNat o := ⟨_, rfl⟩
  have st := set_SD ws k.toNat o
  rw [← hws'] at st
  have hw' : ∀ w ∈ ws', (∀ c ∈ w, c < 128) ∧ w.length ≤ 39 := fun w h => by
    rw [hws'] at h
    rcases List.mem_or_eq_of_mem_set h with z | z
    · exact hw w z
    · rw [z]; exact ⟨o1, by omega⟩
  have hl' : ws'.length = ws.length := by rw [hws', List.length_set]
  have j := gJoin_S [44] ws' (by decide) (fun y hy => by have := (hw' y hy).2; omega) (by omega)
  have jl : (jL [44] ws').length ≤ 800 := by
    have h1 := joinL_len (B := 39) [44] ws' fun y hy => (hw' y hy).2
    have h2 : ws'.length * (39 + 1) ≤ 20 * (39 + 1) := Nat.mul_le_mul_right _ (by omega)
    exact Nat.le_trans h1 h2
  have j1 : ∀ c ∈ jL [44] ws', c < 128 := fun c hc => by
    rcases mem_joinL _ _ hc with z | ⟨y, z1, z2⟩
    · rw [List.mem_singleton.mp z]; omega
    · exact (hw' y z1).1 c z2
  generalize jL [44] ws' = J at *
  have i0 : ∀ x y : Tr, atI [x, y] 0 = some x := fun x y => rfl
  have i1 : ∀ x y : Tr, atI [x, y] 1 = some y := fun x y => rfl
  have ix0 : ixN 2 0 = some 0 := rfl
  have ix1 : ixN 2 1 = some 1 := rfl
  have fo : frz (.ol (oddsZ.map fun z => Tr.d (.str z))) = .d (.list (oddsZ.map PyData.str)) := rfl
  have eo2 : gIdx [.d (.list (oddsZ.map PyData.str)), .d (.int (v % 16))] = some (.d (SD o)) := by
    rw [gIdx_dl, List.map_map]; exact eo
  have odd : (dPr RP.gLst (dCons (dC (.str (Str.ofString ""))) (dCons (dC (.str (Str.ofString "0"))) (dCons (dC (.str (Str.ofString "00"))) (dCons (dC (.str (Str.ofString "01"))) (dCons (dC (.str (Str.ofString "1 0"))) (dCons (dC (.str (Str.ofString "0 1"))) (dCons (dC (.str (Str.ofString " 1"))) (dCons (dC (.str (Str.ofString "1 "))) (dCons (dC (.str (Str.ofString "1  1"))) (dCons (dC (.str (Str.ofString "+1"))) (dCons (dC (.str (Str.ofString "1_0"))) (dCons (dC (.str (Str.ofString "-1"))) (dCons (dC (.str (Str.ofString "999"))) (dCons (dC (.str (Str.ofString "1000"))) (dCons (dC (.str (Str.ofString "1."))) (dCons (dC (.str (Str.ofString "a"))) dNil))))))))))))))))) = fun _ => .ok (.ol (oddsZ.map fun z => Tr.d (.str z))) := rfl
  rcases hu with ⟨hu, hp⟩ | ⟨hu, hp⟩
  · have g1 := gAdd_SDt J [124] (by omega) (by simp)
    have g2 := gAdd_SDt (J ++ [124]) p1 (by rw [List.length_append, List.length_singleton]; omega) (by omega)
    have hl : okT (J ++ [124] ++ p1) := okT_app (n := 801) (m := 1000) (fun c hc => (List.mem_append.mp hc).elim (j1 c) fun z => by rw [List.mem_singleton.mp z]; omega) h1.1 (by rw [List.length_append, List.length_singleton]; omega) h1.2 (by omega)
    refine ⟨_, ?_, hl⟩
    rw [← hp] at s2
    generalize J ++ [124] = w1 at *
    generalize w1 ++ p1 = w2 at *
    generalize oddsZ = oz at *
    unfold D_l_lined
    rw [e_def3]
    unfold d_l_lined
    rw [odd]
    simp [s_br, s_cm, hsp, hu, hk, s2, fo, eo2, ix, st, j, ix0, ix1, chg, nodeT, setN, isOl, g1, g2, hwl]
  · have a0 : ∀ c ∈ p0 ++ [124], c < 128 := fun c hc => (List.mem_append.mp hc).elim (h0.1 c) fun z => by rw [List.mem_singleton.mp z]; omega
    have a1 : (p0 ++ [124]).length ≤ 1001 := by rw [List.length_append, List.length_singleton]; omega
    have g1 := gAdd_SDt p0 [124] (by omega) (by simp)
    have g2 := gAdd_SDt (p0 ++ [124]) J (by omega) (by omega)
    have hl : okT (p0 ++ [124] ++ J) := okT_app (n := 1001) (m := 800) a0 j1 a1 jl (by omega)
    refine ⟨_, ?_, hl⟩
    rw [← hp] at s2
    generalize p0 ++ [124] = w1 at *
    generalize w1 ++ J = w2 at *
    generalize oddsZ = oz at *
    unfold D_l_lined
    rw [e_def3]
    unfold d_l_lined
    rw [odd]
    simp [s_br, s_cm, hsp, hu, hk, s2, fo, eo2, ix, st, j, ix0, ix1, chg, nodeT, setN, isOl, g1, g2, hwl]
theorem m_lined (br bc : List (List Nat)) (hr : ∀ rs ∈ br, okR rs) (hc : ∀ rs ∈ bc, okR rs) (lr : br.length ≤ 20) (lc : bc.length ≤ 20) (r0 : br ≠ []) (c0 : bc ≠ []) (u v : Int) : ∃ l, D_l_lined [.d (SD (boardL br bc)), .d (.int u), .d (.int v)] = .ok (.d (SD l)) ∧ okT l := by
  have hr' := textL20_len hr lr
  have hc' := textL20_len hc lc
  have hsp := gSplit_join 124 [textL br, textL bc] (by decide) (by simp) (fun y hy => by
    intro z
    rcases List.mem_cons.mp hy with rfl | hy
    · have := textL_mem z; omega
    · rw [List.mem_singleton.mp hy] at z
      have := textL_mem z; omega) (by
    show (textL br ++ (124 :: textL bc)).length ≤ _
    rw [List.length_append, List.length_cons]
    omega)
  have hsp : gSplit [.d (SD (boardL br bc)), .d (SD [124])] = some (.ol [.d (SD (textL br)), .d (SD (textL bc))]) := hsp
  have h2 : u % 2 = 0 ∨ u % 2 = 1 := by omega
  rcases h2 with h | h
  · exact m_lined_g _ _ _ br hr lr r0 ⟨textL_128, by omega⟩ ⟨textL_128, by omega⟩ hsp u v (.inl ⟨h, rfl⟩)
  · exact m_lined_g _ _ _ bc hc lc c0 ⟨textL_128, by omega⟩ ⟨textL_128, by omega⟩ hsp u v (.inr ⟨h, rfl⟩)
theorem okR13 {cs : List Int} (h : cs.length ≤ 13) : okR (rn 0 cs) := by
  have h1 := rn_room cs 0
  have hs : ∀ r ∈ rn 0 cs, r ≤ (rn 0 cs).sum := fun r => by
    generalize rn 0 cs = L
    induction L with
    | nil => intro h; cases h
    | cons x L ih =>
      intro h
      rw [List.sum_cons]
      rcases List.mem_cons.mp h with z | z
      · omega
      · have := ih z
        omega
  have hp := rn_pos cs 0
  generalize rn 0 cs = L at *
  refine ⟨fun r hr => ⟨hp r hr, ?_⟩, ?_⟩
  · have := hs r hr
    omega
  · cases L with
    | nil => simp
    | cons x L =>
      have a := hp x List.mem_cons_self
      have b := hs x List.mem_cons_self
      omega
def t0M (p : List (List Int)) (C : Nat) : List Nat := boardL (brP p) (bcP p C)
theorem m_r4 (ns : List Int) (t : List Nat) (ht : okT t) (w : Int) (x1 x4 x5 : Option Tr) : finD (d_law_r4 [some (.s ns), x1, some (.d (SD t)), some (.d (.int w)), x4, x5, none, none]) = .ok (.d (.bool true)) := by
  unfold d_law_r4
  by_cases h : w = 6
  · obtain ⟨l, e, ok⟩ := m_odd (cellM ns 4)
    have r := m_r3 l ok (some (.s ns)) x1 (some (.d (.int w))) x4 x5
    generalize d_law_r3 = r3 at *
    rw [h] at r ⊢
    simp [e, r]
  · have r := m_r3 t ht (some (.s ns)) x1 (some (.d (.int w))) x4 x5
    generalize d_law_r3 = r3 at *
    simp [h, r]
theorem m_r5 (ns : List Int) (t0 t : List Nat) (ht : okT t) (hw : ∀ u v : Int, ∃ l, D_l_lined [.d (SD t0), .d (.int u), .d (.int v)] = .ok (.d (SD l)) ∧ okT l) (w : Int) (h : t = t0 ∨ w < 4) (x1 x4 x5 : Option Tr) : finD (d_law_r5 [some (.s ns), x1, some (.d (SD t)), some (.d (.int w)), x4, x5, none, none]) = .ok (.d (.bool true)) := by
  unfold d_law_r5
  have r := fun t ht => m_r4 ns t ht w x1 x4 x5
  generalize d_law_r4 = r4 at *
  by_cases h4 : w = 4
  · obtain rfl : t = t0 := h.elim id fun z => by omega
    obtain ⟨l, e, ok⟩ := hw (cellM ns 3) (cellM ns 4)
    have r := r l ok
    rw [h4] at r ⊢
    simp [e, r]
  · by_cases h5 : w = 5
    · obtain rfl : t = t0 := h.elim id fun z => by omega
      obtain ⟨l, e, ok⟩ := hw (cellM ns 3) (cellM ns 4)
      have r := r l ok
      rw [h5] at r ⊢
      simp [e, r]
    · have r := r t ht
      simp [h4, h5, r]
theorem m_r6 (ns : List Int) (t0 t : List Nat) (ht : okT t) (h0 : (∀ c ∈ t0, c < 128) ∧ t0.length ≤ 1700) (hw : ∀ u v : Int, ∃ l, D_l_lined [.d (SD t0), .d (.int u), .d (.int v)] = .ok (.d (SD l)) ∧ okT l) (w : Int) (h : t = t0 ∨ w < 3) (k : Int) (hk : 0 ≤ k) (x1 x5 : Option Tr) : finD (d_law_r6 [some (.s ns), x1, some (.d (SD t)), some (.d (.int w)), some (.d (.int k)), x5, none, none]) = .ok (.d (.bool true)) := by
  unfold d_law_r6
  by_cases h3 : w = 3
  · obtain rfl : t = t0 := h.elim id fun z => by omega
    have c1 := gCut_to t k hk (by omega)
    have c2 := gCut_from t (k + 1) (by omega) (by omega)
    have k1 : (t.take k.toNat).length ≤ 1700 := Nat.le_trans (by rw [List.length_take]; omega) h0.2
    have k2 : (t.drop (k + 1).toNat).length ≤ 1700 := Nat.le_trans (by rw [List.length_drop]; omega) h0.2
    have g := gAdd_SDt _ _ (Nat.le_trans k1 (by omega)) (Nat.le_trans k2 (by omega))
    have ok := okT_app (fun c hc => h0.1 c (List.mem_of_mem_take hc)) (fun c hc => h0.1 c (List.mem_of_mem_drop hc)) k1 k2 (by omega)
    generalize List.take k.toNat t = A at *
    generalize List.drop (k + 1).toNat t = B at *
    have r := m_r5 ns t (A ++ B) ok hw w (.inr (by omega)) x1 (some (.d (.int k))) x5
    generalize A ++ B = AB at *
    generalize d_law_r5 = r5 at *
    rw [h3] at r ⊢
    simp [c1, c2, g, r]
  · have r := m_r5 ns t0 t ht hw w (h.imp id fun z => by omega) x1 (some (.d (.int k))) x5
    generalize d_law_r5 = r5 at *
    simp [h3, r]
theorem m_r7 (ns : List Int) (t0 t : List Nat) (ht : okT t) (h0 : (∀ c ∈ t0, c < 128) ∧ t0.length ≤ 1700) (hw : ∀ u v : Int, ∃ l, D_l_lined [.d (SD t0), .d (.int u), .d (.int v)] = .ok (.d (SD l)) ∧ okT l) (w : Int) (h : t = t0 ∨ w < 2) (k : Int) (hk : 0 ≤ k) (x1 : Option Tr) (l : List Nat) (hl : (∀ c ∈ l, c < 128) ∧ l.length ≤ 10) : finD (d_law_r7 [some (.s ns), x1, some (.d (SD t)), some (.d (.int w)), some (.d (.int k)), some (.d (SD l)), none, none]) = .ok (.d (.bool true)) := by
  unfold d_law_r7
  by_cases h3 : w = 2
  · obtain rfl : t = t0 := h.elim id fun z => by omega
    have c1 := gCut_to t k hk (by omega)
    have c2 := gCut_from t (k + 1) (by omega) (by omega)
    have k1 : (t.take k.toNat).length ≤ 1700 := Nat.le_trans (by rw [List.length_take]; omega) h0.2
    have k2 : (t.drop (k + 1).toNat).length ≤ 1700 := Nat.le_trans (by rw [List.length_drop]; omega) h0.2
    have a1 : ∀ c ∈ t.take k.toNat, c < 128 := fun c hc => h0.1 c (List.mem_of_mem_take hc)
    have a2 : ∀ c ∈ t.drop (k + 1).toNat, c < 128 := fun c hc => h0.1 c (List.mem_of_mem_drop hc)
    generalize List.take k.toNat t = A at *
    generalize List.drop (k + 1).toNat t = B at *
    have hl2 := hl.2
    have k3 : (A ++ l).length ≤ 1710 := by rw [List.length_append]; omega
    have g := gAdd_SDt A l (by omega) (by omega)
    have g2 := gAdd_SDt (A ++ l) B (by omega) (by omega)
    have ok := okT_app (a := A ++ l) (b := B) (fun c hc => (List.mem_append.mp hc).elim (a1 c) (hl.1 c)) a2 k3 k2 (by omega)
    have r := m_r6 ns t (A ++ l ++ B) ok h0 hw w (.inr (by omega)) k hk x1 (some (.d (SD l)))
    generalize A ++ l = Al at *
    generalize Al ++ B = AB at *
    generalize d_law_r6 = r6 at *
    rw [h3] at r ⊢
    simp [c1, c2, g, g2, r]
  · have r := m_r6 ns t0 t ht h0 hw w (h.imp id fun z => by omega) k hk x1 (some (.d (SD l)))
    generalize d_law_r6 = r6 at *
    simp [h3, r]
theorem math (ns : List Int) (_ : ns.length ≤ 63) (_ : ∀ z ∈ ns, z.natAbs.log2 ≤ 1048576) : finD (d_law ([some (.s ns)] ++ List.replicate 7 none)) = .ok (.d (.bool true)) := by
  obtain ⟨r, hr⟩ := Int.eq_ofNat_of_zero_le (a := cellM ns 0 % 13) (Int.emod_nonneg _ (by omega))
  obtain ⟨c, hc⟩ := Int.eq_ofNat_of_zero_le (a := cellM ns 0 / 13 % 8) (Int.emod_nonneg _ (by omega))
  have hr12 : r < 13 := by have := Int.emod_lt_of_pos (cellM ns 0) (show (0 : Int) < 13 by omega); omega
  have hc12 : c < 8 := by have := Int.emod_lt_of_pos (cellM ns 0 / 13) (show (0 : Int) < 8 by omega); omega
  obtain ⟨R, hRd⟩ : ∃ R : Nat, R = r + 1 := ⟨_, rfl⟩
  obtain ⟨C, hCd⟩ : ∃ C : Nat, C = c + 1 := ⟨_, rfl⟩
  have eR : (1 : Int) + (r : Int) = (R : Int) := by omega
  have eC : (1 : Int) + (c : Int) = (C : Int) := by omega
  generalize hp : picM (cellM ns 1) R C = p
  have hP : Pic R C p := by rw [← hp]; exact pic_picM _ _ _
  have e1 := m_picture (cellM ns 1) R C (by omega) (by omega)
  have e2 := m_l_board p R C hP (by omega) (by omega) (by omega)
  rw [hp] at e1
  have hRl : (brP p).length = R := by unfold brP; rw [List.length_map, hP.len]
  have hCl : (bcP p C).length = C := by unfold bcP; simp
  have okr : ∀ rs ∈ brP p, okR rs := fun rs h => by
    obtain ⟨r, hr, rfl⟩ := List.mem_map.mp h
    exact okR_rn (by have := hP.row r hr; omega)
  have okc : ∀ rs ∈ bcP p C, okR rs := fun rs h => by
    obtain ⟨k, _, rfl⟩ := List.mem_map.mp h
    have : (colM p k).length = R := by unfold colM; rw [List.length_map, hP.len]
    exact okR13 (by omega)
  have ne1 : brP p ≠ [] := fun z => by rw [z] at hRl; simp at hRl; omega
  have ne2 : bcP p C ≠ [] := fun z => by rw [z] at hCl; simp at hCl; omega
  rw [bd_BD] at e2
  have e3 := m_text _ _ okr okc (by omega) (by omega)
  have hr' := textL20_len okr (by omega)
  have hc' := textL20_len okc (by omega)
  have hw := m_lined _ _ okr okc (by omega) (by omega) ne1 ne2
  have h0 : (∀ c ∈ boardL (brP p) (bcP p C), c < 128) ∧ (boardL (brP p) (bcP p C)).length ≤ 1700 := ⟨boardL_128, by
    unfold boardL
    rw [List.length_append, List.length_cons]
    omega⟩
  generalize boardL (brP p) (bcP p C) = t0 at *
  have ht0 : okT t0 := ⟨h0.1, by omega⟩
  have gl := gLen_SD t0 (by omega)
  have e2 : D_l_board [.e (LL p)] = .ok (.d (BD (brP p) (bcP p C))) := e2
  have mb : mkE (BD (brP p) (bcP p C)) = .d (BD (brP p) (bcP p C)) := by simp
  generalize BD (brP p) (bcP p C) = bd at *
  have k0 : 0 ≤ cellM ns 3 % ((t0.length : Int) + 1) := Int.emod_nonneg _ (by omega)
  have lp : (0 : Int) < (t0.length : Int) + 1 := by omega
  obtain ⟨l, el, l1, l2⟩ := put_z (cellM ns 4 % 14) (Int.emod_nonneg _ (by omega)) (Int.emod_lt_of_pos _ (by omega))
  generalize hk : cellM ns 3 % ((t0.length : Int) + 1) = k at *
  have fin := fun t ht h => m_r7 ns t0 t ht h0 hw (cellM ns 2 % 10) h k k0 (some (.d (.int (cellM ns 0)))) l ⟨l1, l2⟩
  unfold d_law
  generalize d_law_r7 = r7 at *
  have c1 := gCut_to t0 k k0 (by omega)
  have c2 := gCut_from t0 k k0 (by omega)
  have k1 : (t0.take k.toNat).length ≤ 1700 := Nat.le_trans (by rw [List.length_take]; omega) h0.2
  have k2 : (t0.drop k.toNat).length ≤ 1700 := Nat.le_trans (by rw [List.length_drop]; omega) h0.2
  have a1 : ∀ c ∈ t0.take k.toNat, c < 128 := fun c hc => h0.1 c (List.mem_of_mem_take hc)
  have a2 : ∀ c ∈ t0.drop k.toNat, c < 128 := fun c hc => h0.1 c (List.mem_of_mem_drop hc)
  generalize List.take k.toNat t0 = A at *
  generalize List.drop k.toNat t0 = B at *
  have k3 : (A ++ l).length ≤ 1710 := by rw [List.length_append]; omega
  have g := gAdd_SDt A l (by omega) (by omega)
  have g2 := gAdd_SDt (A ++ l) B (by omega) (by omega)
  have ok := okT_app (a := A ++ l) (b := B) (fun c hc => (List.mem_append.mp hc).elim (a1 c) (l1 c)) a2 k3 k2 (by omega)
  generalize A ++ l = Al at *
  generalize Al ++ B = AB at *
  by_cases w0 : cellM ns 2 % 10 = 0
  · have fin := fin AB ok (.inr (by omega))
    rw [w0] at fin
    simp [hr, hc, eR, eC, mb, e1, e2, e3, gl, lp, hk, el, w0, c1, c2, g, g2, fin]
  · by_cases w1 : cellM ns 2 % 10 = 1
    · have fin := fin AB ok (.inr (by omega))
      rw [w1] at fin
      simp [hr, hc, eR, eC, mb, e1, e2, e3, gl, lp, hk, el, w1, c1, c2, g, g2, fin]
    · have fin := fin t0 ht0 (.inl rfl)
      simp [hr, hc, eR, eC, mb, e1, e2, e3, gl, lp, hk, el, w0, w1, fin]
/-! ### soundness -/
section
variable {P : Program} {w : World} {K : PySem.W.Frag} {mg : Str → Option Value} {base : Heap} {cl : Str → Addr}
structure Nn (K : PySem.W.Frag) (mg : Str → Option Value) (cl : Str → Addr) : Prop where
  n_ValueError : mg "ValueError" = none
  n_all : mg "all" = none
  n_bool : mg "bool" = none
  n_int : mg "int" = none
  n_isinstance : mg "isinstance" = none
  n_len : mg "len" = none
  n_max : mg "max" = none
  n_range : mg "range" = none
  n_str : mg "str" = none
  n_sum : mg "sum" = none
  n_tuple : mg "tuple" = none
  g_BadRun : mg "BadRun" = some (.ref (cl "BadRun"))
  g_NoLaying : mg "NoLaying" = some (.ref (cl "NoLaying"))
  g_NoNote : mg "NoNote" = some (.ref (cl "NoNote"))
  g_NoNumber : mg "NoNumber" = some (.ref (cl "NoNumber"))
  g_PaintError : mg "PaintError" = some (.ref (cl "PaintError"))
  g_TooMany : mg "TooMany" = some (.ref (cl "TooMany"))
  g_Wide : mg "Wide" = some (.ref (cl "Wide"))
  k_BadRun : PySem.W.keepIn K (.ref (cl "BadRun")) = true
  x_BadRun : PySem.W.excIn K (cl "BadRun") [.type "ValueError", .type "Exception", .type "BaseException", .type "object"] "ValueError.__new__" = true
  b_BadRun : PySem.W.subIn K (.ref (cl "BadRun")) (.type "BaseException") = some true
  t_BadRun : PySem.W.typeIn K (.ref (cl "BadRun")) = some (.type "type")
  k_NoNote : PySem.W.keepIn K (.ref (cl "NoNote")) = true
  x_NoNote : PySem.W.excIn K (cl "NoNote") [.type "ValueError", .type "Exception", .type "BaseException", .type "object"] "ValueError.__new__" = true
  b_NoNote : PySem.W.subIn K (.ref (cl "NoNote")) (.type "BaseException") = some true
  t_NoNote : PySem.W.typeIn K (.ref (cl "NoNote")) = some (.type "type")
  k_TooMany : PySem.W.keepIn K (.ref (cl "TooMany")) = true
  x_TooMany : PySem.W.excIn K (cl "TooMany") [.type "ValueError", .type "Exception", .type "BaseException", .type "object"] "ValueError.__new__" = true
  b_TooMany : PySem.W.subIn K (.ref (cl "TooMany")) (.type "BaseException") = some true
  t_TooMany : PySem.W.typeIn K (.ref (cl "TooMany")) = some (.type "type")
  k_Wide : PySem.W.keepIn K (.ref (cl "Wide")) = true
  x_Wide : PySem.W.excIn K (cl "Wide") [.type "ValueError", .type "Exception", .type "BaseException", .type "object"] "ValueError.__new__" = true
  b_Wide : PySem.W.subIn K (.ref (cl "Wide")) (.type "BaseException") = some true
  t_Wide : PySem.W.typeIn K (.ref (cl "Wide")) = some (.type "type")
  ok : ∀ c ∈ errL, ErrOk K cl (.ref (cl "PaintError")) [.ref (cl "NoLaying"), .ref (cl "NoNumber"), .ref (cl "TooMany"), .ref (cl "BadRun")] [.ref (cl "Wide"), .ref (cl "NoNote"), .ty "ValueError"] c
  v_MOST_LINES : ∃ t, mg "MOST_LINES" = some (.int 12 t)
  v_FIGURES : ∃ t, mg "FIGURES" = some (.str "0123456789" t)
structure Txt (P : Program) (w : World) (K : PySem.W.Frag) (mg : Str → Option Value) (base : Heap) (cl : Str → Addr) : Prop extends Nn K mg cl
theorem ok_checked {f : Addr} {fd : FuncData} (T : Nn K mg cl)  (F : Fun K "checked" "checked" s_checked f fd) : FnOk P w K mg base (L2.CX P w) 1 f fd ["lines", "size"] (spOf K cl D_checked) :=
  fn_okX (k := 0) (body := d_checked) F sc_checked (p := 2) (n := 3) rfl rfl fun cdv A outer s H E hr => by
    have tk : Takes (cxOf (L2.CX P w) P w K mg base ["lines", "size", "runs"] "checked" (defScope s_checked) f cdv A outer s H E) (fun cls d _ H => E cls d H) := takes_of rfl rfl rfl rfl
    have po : PassesOwn (model P w) (A.deeper (envOfC "checked" (defScope s_checked) s.heap.objs.size f cdv)) (envOfC "checked" (defScope s_checked) s.heap.objs.size f cdv) _ := passes_of (X := cxOf (L2.CX P w) P w K mg base ["lines", "size", "runs"] "checked" (defScope s_checked) f cdv A outer s H E) rfl
    exact (sb_one (ss_for po rfl (si_seq (sn_var (pv 0))) (pg_name (i := 2) sc_checked.nd rfl (.inl rfl)) (g_name 2)
    (sb_one (ss_if (st_gt (sn_add (sn_sum rfl (by rfl) T.n_sum (sn_var (pv 2))) (sn_max2 rfl (by rfl) T.n_max (sn_c pe_int) (sn_sub (sn_len (by rfl) T.n_len (sn_var (pv 2))) (sn_c pe_int)))) (sn_var (pv 1)))
    (sb_one (ss_raise (cl := cl) (c := "Wide") rfl tk (pmk_own PySem.F.excBase_ValueError T.x_Wide T.g_Wide T.k_Wide (raises_own T.b_Wide T.t_Wide) (by rfl))))
    sb_nil))))
theorem ok_looked {f : Addr} {fd : FuncData} (T : Nn K mg cl) (c_checked : Cal P w K mg base cl "checked" 1 D_checked) (F : Fun K "looked" "looked" s_looked f fd) : FnOk P w K mg base (L2.CX P w) 2 f fd ["board"] (spOf K cl D_looked) :=
  fn_okX (k := 1) (body := d_looked) F sc_looked (p := 1) (n := 4) rfl rfl fun cdv A outer s H E hr => by
    have tk : Takes (cxOf (L2.CX P w) P w K mg base ["board", "lines", "runs", "run"] "looked" (defScope s_looked) f cdv A outer s H E) (fun cls d _ H => E cls d H) := takes_of rfl rfl rfl rfl
    have po : PassesOwn (model P w) (A.deeper (envOfC "looked" (defScope s_looked) s.heap.objs.size f cdv)) (envOfC "looked" (defScope s_looked) s.heap.objs.size f cdv) _ := passes_of (X := cxOf (L2.CX P w) P w K mg base ["board", "lines", "runs", "run"] "looked" (defScope s_looked) f cdv A outer s H E) rfl
    exact (sb_cons (ss_for po rfl (si_seq (sn_var (pv 0))) (pg_name (i := 1) sc_looked.nd rfl (.inl rfl)) (g_name 1)
    (sb_one (ss_if (st_not (st_chain op_le op_le (sn_c pe_int) (sn_len (by rfl) T.n_len (sn_var (pv 1))) (sn_c (pe_gInt (by rfl) T.v_MOST_LINES))))
    (sb_one (ss_raise (cl := cl) (c := "TooMany") rfl tk (pmk_own PySem.F.excBase_ValueError T.x_TooMany T.g_TooMany T.k_TooMany (raises_own T.b_TooMany T.t_TooMany) (by rfl))))
    sb_nil)))
    (sb_cons (ss_for po rfl (si_seq (sn_var (pv 0))) (pg_name (i := 1) sc_looked.nd rfl (.inl rfl)) (g_name 1)
    (sb_one (ss_for po rfl (si_seq (sn_var (pv 1))) (pg_name (i := 2) sc_looked.nd rfl (.inl rfl)) (g_name 2)
    (sb_one (ss_for po rfl (si_seq (sn_var (pv 2))) (pg_name (i := 3) sc_looked.nd rfl (.inl rfl)) (g_name 3)
    (sb_one (ss_if (st_lt (sn_var (pv 3)) (sn_c pe_int))
    (sb_one (ss_raise (cl := cl) (c := "BadRun") rfl tk (pmk_own PySem.F.excBase_ValueError T.x_BadRun T.g_BadRun T.k_BadRun (raises_own T.b_BadRun T.t_BadRun) (by rfl))))
    sb_nil)))))))
    (sb_cons (ss_expr (sn_cal (cl := cl) c_checked tk hr (by decide) rfl (sa_cons (sn_idx (sn_var (pv 0)) (sn_c pe_int) (fun _ _ => rfl)) (sa_cons (sn_len (by rfl) T.n_len (sn_idx (sn_var (pv 0)) (sn_c pe_int) (fun _ _ => rfl))) sa_nil))))
    (sb_cons (ss_expr (sn_cal (cl := cl) c_checked tk hr (by decide) rfl (sa_cons (sn_idx (sn_var (pv 0)) (sn_c pe_int) (fun _ _ => rfl)) (sa_cons (sn_len (by rfl) T.n_len (sn_idx (sn_var (pv 0)) (sn_c pe_int) (fun _ _ => rfl))) sa_nil))))
    (sb_one (ss_ret (sx_lift (sn_tup (sa_cons (sn_len (by rfl) T.n_len (sn_idx (sn_var (pv 0)) (sn_c pe_int) (fun _ _ => rfl))) (sa_cons (sn_len (by rfl) T.n_len (sn_idx (sn_var (pv 0)) (sn_c pe_int) (fun _ _ => rfl))) sa_nil))))))))))
theorem ok_run_of {f : Addr} {fd : FuncData} (T : Nn K mg cl)  (F : Fun K "run_of" "run_of" s_run_of f fd) : FnOk P w K mg base (L2.CX P w) 1 f fd ["word"] (spOf K cl D_run_of) :=
  fn_okX (k := 0) (body := d_run_of) F sc_run_of (p := 1) (n := 2) rfl rfl fun cdv A outer s H E hr => by
    have tk : Takes (cxOf (L2.CX P w) P w K mg base ["word", "sign"] "run_of" (defScope s_run_of) f cdv A outer s H E) (fun cls d _ H => E cls d H) := takes_of rfl rfl rfl rfl
    have po : PassesOwn (model P w) (A.deeper (envOfC "run_of" (defScope s_run_of) s.heap.objs.size f cdv)) (envOfC "run_of" (defScope s_run_of) s.heap.objs.size f cdv) _ := passes_of (X := cxOf (L2.CX P w) P w K mg base ["word", "sign"] "run_of" (defScope s_run_of) f cdv A outer s H E) rfl
    exact (sb_cons (ss_for po rfl (si_seq (sn_var (pv 0))) (pg_name (i := 1) sc_run_of.nd rfl (.inl rfl)) (g_name 1)
    (sb_one (ss_if (st_ninS (sn_var (pv 1)) (sn_c (pe_gStr (by rfl) T.v_FIGURES)))
    (sb_one (ss_raise (cl := cl) (c := "NoNote") rfl tk (pmk_own PySem.F.excBase_ValueError T.x_NoNote T.g_NoNote T.k_NoNote (raises_own T.b_NoNote T.t_NoNote) (by rfl))))
    sb_nil)))
    (sb_cons (ss_if (st_w (sw_or (st_not (st_chain op_le op_le (sn_c pe_int) (sn_len (by rfl) T.n_len (sn_var (pv 0))) (sn_c pe_int))) (sw_or1 (st_eq hr (sn_idx (sn_var (pv 0)) (sn_c pe_int) (fun _ _ => rfl)) (sn_c pe_str)))))
    (sb_one (ss_raise (cl := cl) (c := "NoNote") rfl tk (pmk_own PySem.F.excBase_ValueError T.x_NoNote T.g_NoNote T.k_NoNote (raises_own T.b_NoNote T.t_NoNote) (by rfl))))
    sb_nil)
    (sb_one (ss_ret (sx_lift (sn_int (by rfl) T.n_int (sn_var (pv 0))))))))
theorem ok_runs_read {f : Addr} {fd : FuncData} (T : Nn K mg cl) (c_run_of : Cal P w K mg base cl "run_of" 1 D_run_of) (F : Fun K "runs_read" "runs_read" s_runs_read f fd) : FnOk P w K mg base (L2.CX P w) 2 f fd ["text"] (spOf K cl D_runs_read) :=
  fn_okX (k := 1) (body := d_runs_read) F sc_runs_read (p := 1) (n := 2) rfl rfl fun cdv A outer s H E hr => by
    have tk : Takes (cxOf (L2.CX P w) P w K mg base ["text", "word"] "runs_read" (defScope s_runs_read) f cdv A outer s H E) (fun cls d _ H => E cls d H) := takes_of rfl rfl rfl rfl
    have po : PassesOwn (model P w) (A.deeper (envOfC "runs_read" (defScope s_runs_read) s.heap.objs.size f cdv)) (envOfC "runs_read" (defScope s_runs_read) s.heap.objs.size f cdv) _ := passes_of (X := cxOf (L2.CX P w) P w K mg base ["text", "word"] "runs_read" (defScope s_runs_read) f cdv A outer s H E) rfl
    exact (sb_cons (ss_if (st_eq hr (sn_var (pv 0)) (sn_c pe_str))
    (sb_one (ss_ret (sx_lift (sn_tup sa_nil))))
    sb_nil)
    (sb_one (ss_ret (sx_lift (sn_tuple (by rfl) T.n_tuple (sn_compD rfl sc_runs_read.nd tk rfl rfl (own := [("word", 1)]) (si_seq (sn_split (sn_var (pv 0)) (sn_c pe_str))) (blk_by (N := ["text", "word"]) (own := [("word", 1)]) [("text", .local), ("tuple", .globalImplicit)] [(".0", .local), ("word", .local), ("run_of", .globalImplicit)]) (fun _ _ _ _ _ => (pg_name (i := 1) sc_runs_read.nd rfl (.inl rfl))) (g_name 1) (by decide) (fun _ _ _ _ _ _ _ _ hx => (sn_calE (cl := cl) hx c_run_of hr (by decide) rfl (sa_cons (sn_var (pv 1)) sa_nil)))))))))
theorem ok_read {f : Addr} {fd : FuncData} (T : Nn K mg cl) (c_looked : Cal P w K mg base cl "looked" 2 D_looked) (c_runs_read : Cal P w K mg base cl "runs_read" 2 D_runs_read) (F : Fun K "read" "read" s_read f fd) : FnOk P w K mg base (L2.CX P w) 3 f fd ["text"] (spOf K cl D_read) :=
  fn_okX (k := 2) (body := d_read) F sc_read (p := 1) (n := 5) rfl rfl fun cdv A outer s H E hr => by
    have tk : Takes (cxOf (L2.CX P w) P w K mg base ["text", "parts", "rows", "board", "line"] "read" (defScope s_read) f cdv A outer s H E) (fun cls d _ H => E cls d H) := takes_of rfl rfl rfl rfl
    have po : PassesOwn (model P w) (A.deeper (envOfC "read" (defScope s_read) s.heap.objs.size f cdv)) (envOfC "read" (defScope s_read) s.heap.objs.size f cdv) _ := passes_of (X := cxOf (L2.CX P w) P w K mg base ["text", "parts", "rows", "board", "line"] "read" (defScope s_read) f cdv A outer s H E) rfl
    exact (sb_cons (ss_set true sc_read.nd rfl (.inl rfl) (sn_split (sn_var (pv 0)) (sn_c pe_str)))
    (sb_cons (ss_if (st_ne hr (sn_len (by rfl) T.n_len (sn_var (pv 1))) (sn_c pe_int))
    (sb_one (ss_raise (cl := cl) (c := "NoNote") rfl tk (pmk_own PySem.F.excBase_ValueError T.x_NoNote T.g_NoNote T.k_NoNote (raises_own T.b_NoNote T.t_NoNote) (by rfl))))
    sb_nil)
    (sb_cons (ss_set true sc_read.nd rfl (.inl rfl) (sn_tuple (by rfl) T.n_tuple (sn_compD rfl sc_read.nd tk rfl rfl (own := [("line", 4)]) (si_seq (sn_split (sn_idx (sn_var (pv 1)) (sn_c pe_int) (fun _ _ => rfl)) (sn_c pe_str))) (blk_by (N := ["text", "parts", "rows", "board", "line"]) (own := [("line", 4)]) [("text", .local), ("parts", .local), ("rows", .local), ("board", .local), ("len", .globalImplicit), ("NoNote", .globalImplicit), ("tuple", .globalImplicit), ("looked", .globalImplicit)] [(".0", .local), ("line", .local), ("runs_read", .globalImplicit)]) (fun _ _ _ _ _ => (pg_name (i := 4) sc_read.nd rfl (.inl rfl))) (g_name 4) (by decide) (fun _ _ _ _ _ _ _ _ hx => (sn_calE (cl := cl) hx c_runs_read hr (by decide) rfl (sa_cons (sn_var (pv 4)) sa_nil))))))
    (sb_cons (ss_set true sc_read.nd rfl (.inl rfl) (sn_tup (sa_cons (sn_var (pv 2)) (sa_cons (sn_tuple (by rfl) T.n_tuple (sn_compD rfl sc_read.nd tk rfl rfl (own := [("line", 4)]) (si_seq (sn_split (sn_idx (sn_var (pv 1)) (sn_c pe_int) (fun _ _ => rfl)) (sn_c pe_str))) (blk_by (N := ["text", "parts", "rows", "board", "line"]) (own := [("line", 4)]) [("text", .local), ("parts", .local), ("rows", .local), ("board", .local), ("len", .globalImplicit), ("NoNote", .globalImplicit), ("tuple", .globalImplicit), ("looked", .globalImplicit)] [(".0", .local), ("line", .local), ("runs_read", .globalImplicit)]) (fun _ _ _ _ _ => (pg_name (i := 4) sc_read.nd rfl (.inl rfl))) (g_name 4) (by decide) (fun _ _ _ _ _ _ _ _ hx => (sn_calE (cl := cl) hx c_runs_read hr (by decide) rfl (sa_cons (sn_var (pv 4)) sa_nil))))) sa_nil))))
    (sb_cons (ss_expr (sn_cal (cl := cl) c_looked tk hr (by decide) rfl (sa_cons (sn_var (pv 3)) sa_nil)))
    (sb_one (ss_ret (sx_lift (sn_var (pv 3))))))))))
theorem ok_l_cell_at {f : Addr} {fd : FuncData} (T : Nn K mg cl)  (F : Fun K "_law_cell_at" "_law_cell_at" s_l_cell_at f fd) : FnOk P w K mg base (L2.CX P w) 1 f fd ["script", "k"] (spOf K cl D_l_cell_at) :=
  fn_okX (k := 0) (body := d_l_cell_at) F sc_l_cell_at (p := 2) (n := 2) rfl rfl fun cdv A outer s H E hr => by
    have tk : Takes (cxOf (L2.CX P w) P w K mg base ["script", "k"] "_law_cell_at" (defScope s_l_cell_at) f cdv A outer s H E) (fun cls d _ H => E cls d H) := takes_of rfl rfl rfl rfl
    have po : PassesOwn (model P w) (A.deeper (envOfC "_law_cell_at" (defScope s_l_cell_at) s.heap.objs.size f cdv)) (envOfC "_law_cell_at" (defScope s_l_cell_at) s.heap.objs.size f cdv) _ := passes_of (X := cxOf (L2.CX P w) P w K mg base ["script", "k"] "_law_cell_at" (defScope s_l_cell_at) f cdv A outer s H E) rfl
    exact (sb_cons (ss_if (st_lt (sn_var (pv 1)) (sn_len (by rfl) T.n_len (sn_var (pv 0))))
    (sb_one (ss_ret (sx_lift (sn_idx (sn_var (pv 0)) (sn_var (pv 1)) (fun _ _ => rfl)))))
    sb_nil)
    (sb_one (ss_ret (sx_lift (sn_c pe_int)))))
theorem ok_l_whole {f : Addr} {fd : FuncData} (T : Nn K mg cl)  (F : Fun K "_law_whole" "_law_whole" s_l_whole f fd) : FnOk P w K mg base (L2.CX P w) 1 f fd ["x"] (spOf K cl D_l_whole) :=
  fn_okX (k := 0) (body := d_l_whole) F sc_l_whole (p := 1) (n := 1) rfl rfl fun cdv A outer s H E hr => by
    have tk : Takes (cxOf (L2.CX P w) P w K mg base ["x"] "_law_whole" (defScope s_l_whole) f cdv A outer s H E) (fun cls d _ H => E cls d H) := takes_of rfl rfl rfl rfl
    have po : PassesOwn (model P w) (A.deeper (envOfC "_law_whole" (defScope s_l_whole) s.heap.objs.size f cdv)) (envOfC "_law_whole" (defScope s_l_whole) s.heap.objs.size f cdv) _ := passes_of (X := cxOf (L2.CX P w) P w K mg base ["x"] "_law_whole" (defScope s_l_whole) f cdv A outer s H E) rfl
    exact (sb_one (ss_ret (sx_lift (sn_and (sn_isi (by rfl) T.n_isinstance (pe_bltn (by rfl) T.n_int (by decide +kernel) rfl) (sn_var (pv 0))) (sn_one (sn_not (sn_isi (by rfl) T.n_isinstance (pe_bltn (by rfl) T.n_bool (by decide +kernel) rfl) (sn_var (pv 0)))))))))
theorem ok_l_mix {f : Addr} {fd : FuncData} (T : Nn K mg cl)  (F : Fun K "_law_mix" "_law_mix" s_l_mix f fd) : FnOk P w K mg base (L2.CX P w) 1 f fd ["cell", "k"] (spOf K cl D_l_mix) :=
  fn_okX (k := 0) (body := d_l_mix) F sc_l_mix (p := 2) (n := 3) rfl rfl fun cdv A outer s H E hr => by
    have tk : Takes (cxOf (L2.CX P w) P w K mg base ["cell", "k", "mixed"] "_law_mix" (defScope s_l_mix) f cdv A outer s H E) (fun cls d _ H => E cls d H) := takes_of rfl rfl rfl rfl
    have po : PassesOwn (model P w) (A.deeper (envOfC "_law_mix" (defScope s_l_mix) s.heap.objs.size f cdv)) (envOfC "_law_mix" (defScope s_l_mix) s.heap.objs.size f cdv) _ := passes_of (X := cxOf (L2.CX P w) P w K mg base ["cell", "k", "mixed"] "_law_mix" (defScope s_l_mix) f cdv A outer s H E) rfl
    exact (sb_cons (ss_set true sc_l_mix.nd rfl (.inl rfl) (sn_mod (sn_add (sn_add (sn_mul (sn_var (pv 0)) (sn_c pe_int)) (sn_mul (sn_c pe_int) (sn_var (pv 1)))) (sn_c pe_int)) (sn_c pe_int)))
    (sb_one (ss_ret (sx_lift (sn_mod (sn_add (sn_add (sn_mul (sn_var (pv 2)) (sn_var (pv 2))) (sn_mul (sn_c pe_int) (sn_var (pv 2)))) (sn_var (pv 1))) (sn_c pe_int))))))
theorem ok_l_runs {f : Addr} {fd : FuncData} (T : Nn K mg cl)  (F : Fun K "_law_runs" "_law_runs" s_l_runs f fd) : FnOk P w K mg base (L2.CX P w) 1 f fd ["cells"] (spOf K cl D_l_runs) :=
  fn_okX (k := 0) (body := d_l_runs) F sc_l_runs (p := 1) (n := 4) rfl rfl fun cdv A outer s H E hr => by
    have tk : Takes (cxOf (L2.CX P w) P w K mg base ["cells", "found", "count", "cell"] "_law_runs" (defScope s_l_runs) f cdv A outer s H E) (fun cls d _ H => E cls d H) := takes_of rfl rfl rfl rfl
    have po : PassesOwn (model P w) (A.deeper (envOfC "_law_runs" (defScope s_l_runs) s.heap.objs.size f cdv)) (envOfC "_law_runs" (defScope s_l_runs) s.heap.objs.size f cdv) _ := passes_of (X := cxOf (L2.CX P w) P w K mg base ["cells", "found", "count", "cell"] "_law_runs" (defScope s_l_runs) f cdv A outer s H E) rfl
    exact (sb_cons (ss_set false sc_l_runs.nd rfl (.inl rfl) (sn_lst sa_nil))
    (sb_cons (ss_set true sc_l_runs.nd rfl (.inl rfl) (sn_c pe_int))
    (sb_cons (ss_for po rfl (si_seq (sn_add (sn_var (pv 0)) (sn_lst (sa_cons (sn_c pe_int) sa_nil)))) (pg_name (i := 3) sc_l_runs.nd rfl (.inl rfl)) (g_name 3)
    (sb_one (ss_if (st_eq hr (sn_var (pv 3)) (sn_c pe_int))
    (sb_one (ss_set true sc_l_runs.nd rfl (.inl rfl) (sn_add (sn_var (pv 2)) (sn_c pe_int))))
    (sb_one (ss_if (st_gt (sn_var (pv 2)) (sn_c pe_int))
    (sb_cons (ss_app (sp_name 1 (pv 1)) (sx_lift (sn_var (pv 2))))
    (sb_one (ss_set true sc_l_runs.nd rfl (.inl rfl) (sn_c pe_int))))
    sb_nil)))))
    (sb_one (ss_ret (sx_lift (sn_tuple (by rfl) T.n_tuple (sn_var (pv 1)))))))))
theorem ok_l_picture {f : Addr} {fd : FuncData} (T : Nn K mg cl) (c_l_mix : Cal P w K mg base cl "_law_mix" 1 D_l_mix) (F : Fun K "_law_picture" "_law_picture" s_l_picture f fd) : FnOk P w K mg base (L2.CX P w) 2 f fd ["cell", "rows", "columns"] (spOf K cl D_l_picture) :=
  fn_okX (k := 1) (body := d_l_picture) F sc_l_picture (p := 3) (n := 9) rfl rfl fun cdv A outer s H E hr => by
    have tk : Takes (cxOf (L2.CX P w) P w K mg base ["cell", "rows", "columns", "dense", "found", "row", "line", "at", "drawn"] "_law_picture" (defScope s_l_picture) f cdv A outer s H E) (fun cls d _ H => E cls d H) := takes_of rfl rfl rfl rfl
    have po : PassesOwn (model P w) (A.deeper (envOfC "_law_picture" (defScope s_l_picture) s.heap.objs.size f cdv)) (envOfC "_law_picture" (defScope s_l_picture) s.heap.objs.size f cdv) _ := passes_of (X := cxOf (L2.CX P w) P w K mg base ["cell", "rows", "columns", "dense", "found", "row", "line", "at", "drawn"] "_law_picture" (defScope s_l_picture) f cdv A outer s H E) rfl
    exact (sb_cons (ss_set true sc_l_picture.nd rfl (.inl rfl) (sn_mod (sn_cal (cl := cl) c_l_mix tk hr (by decide) rfl (sa_cons (sn_var (pv 0)) (sa_cons (sn_c pe_int) sa_nil))) (sn_c pe_int)))
    (sb_cons (ss_set false sc_l_picture.nd rfl (.inl rfl) (sn_lst sa_nil))
    (sb_cons (ss_for po rfl (si_rng1 (by rfl) T.n_range (sn_var (pv 1))) (pg_name (i := 5) sc_l_picture.nd rfl (.inl rfl)) (g_name 5)
    (sb_cons (ss_set false sc_l_picture.nd rfl (.inl rfl) (sn_lst sa_nil))
    (sb_cons (ss_for po rfl (si_rng1 (by rfl) T.n_range (sn_var (pv 2))) (pg_name (i := 7) sc_l_picture.nd rfl (.inl rfl)) (g_name 7)
    (sb_cons (ss_set true sc_l_picture.nd rfl (.inl rfl) (sn_div (sn_cal (cl := cl) c_l_mix tk hr (by decide) rfl (sa_cons (sn_var (pv 0)) (sa_cons (sn_add (sn_add (sn_c pe_int) (sn_mul (sn_c pe_int) (sn_var (pv 5)))) (sn_var (pv 7))) sa_nil))) (sn_c pe_int)))
    (sb_one (ss_app (sp_name 6 (pv 6)) (sx_lift (sn_int (by rfl) T.n_int (sn_gt (sn_mod (sn_var (pv 8)) (sn_c pe_int)) (sn_var (pv 3)))))))))
    (sb_one (ss_app (sp_name 4 (pv 4)) (sx_var 6 (pv 6)))))))
    (sb_one (ss_ret (sx_var 4 (pv 4)))))))
theorem ok_l_column {f : Addr} {fd : FuncData} (T : Nn K mg cl)  (F : Fun K "_law_column" "_law_column" s_l_column f fd) : FnOk P w K mg base (L2.CX P w) 1 f fd ["rows", "at"] (spOf K cl D_l_column) :=
  fn_okX (k := 0) (body := d_l_column) F sc_l_column (p := 2) (n := 3) rfl rfl fun cdv A outer s H E hr => by
    have tk : Takes (cxOf (L2.CX P w) P w K mg base ["rows", "at", "row"] "_law_column" (defScope s_l_column) f cdv A outer s H E) (fun cls d _ H => E cls d H) := takes_of rfl rfl rfl rfl
    have po : PassesOwn (model P w) (A.deeper (envOfC "_law_column" (defScope s_l_column) s.heap.objs.size f cdv)) (envOfC "_law_column" (defScope s_l_column) s.heap.objs.size f cdv) _ := passes_of (X := cxOf (L2.CX P w) P w K mg base ["rows", "at", "row"] "_law_column" (defScope s_l_column) f cdv A outer s H E) rfl
    exact (sb_one (ss_ret (sx_lift (sn_comp rfl sc_l_column.nd (own := [("row", 2)]) (si_seq (sn_var (pv 0))) (blk_by (N := ["rows", "at", "row"]) (own := [("row", 2)]) [("rows", .local), ("at", .cell)] [(".0", .local), ("row", .local), ("at", .free)]) (fun _ _ _ _ _ => (pg_name (i := 2) sc_l_column.nd rfl (.inl rfl))) (g_name 2) (by decide) (fun _ _ _ _ _ => pts_none) (fun _ _ _ _ _ => (sn_idx (sn_var (pv 2)) (sn_var (pv 1)) (fun _ _ => rfl)))))))
theorem ok_l_board {f : Addr} {fd : FuncData} (T : Nn K mg cl) (c_l_column : Cal P w K mg base cl "_law_column" 1 D_l_column) (c_l_runs : Cal P w K mg base cl "_law_runs" 1 D_l_runs) (F : Fun K "_law_board" "_law_board" s_l_board f fd) : FnOk P w K mg base (L2.CX P w) 2 f fd ["picture"] (spOf K cl D_l_board) :=
  fn_okX (k := 1) (body := d_l_board) F sc_l_board (p := 1) (n := 4) rfl rfl fun cdv A outer s H E hr => by
    have tk : Takes (cxOf (L2.CX P w) P w K mg base ["picture", "columns", "at", "row"] "_law_board" (defScope s_l_board) f cdv A outer s H E) (fun cls d _ H => E cls d H) := takes_of rfl rfl rfl rfl
    have po : PassesOwn (model P w) (A.deeper (envOfC "_law_board" (defScope s_l_board) s.heap.objs.size f cdv)) (envOfC "_law_board" (defScope s_l_board) s.heap.objs.size f cdv) _ := passes_of (X := cxOf (L2.CX P w) P w K mg base ["picture", "columns", "at", "row"] "_law_board" (defScope s_l_board) f cdv A outer s H E) rfl
    exact (sb_cons (ss_setLc true rfl sc_l_board.nd rfl rfl (sw_true rfl rfl rfl (by decide +kernel)) (own := [("at", 2)]) (si_rng1 (by rfl) T.n_range (sn_len (by rfl) T.n_len (sn_idx (sn_var (pv 0)) (sn_c pe_int) (fun _ _ => rfl)))) (blk_by (N := ["picture", "columns", "at", "row"]) (own := [("at", 2)]) [("picture", .cell), ("columns", .local), ("range", .globalImplicit), ("len", .globalImplicit), ("tuple", .globalImplicit)] [(".0", .local), ("at", .local), ("_law_runs", .globalImplicit), ("_law_column", .globalImplicit), ("picture", .free)]) (fun _ _ _ _ _ => (pg_name (i := 2) sc_l_board.nd rfl (.inl rfl))) (g_name 2) (by decide) (fun _ _ _ _ _ => pts_none) (fun _ _ _ _ _ => (sn_cal0 c_l_runs hr (by decide) rfl (sa_cons (sn_cal0 c_l_column hr (by decide) rfl (sa_cons (sn_var (pv 0)) (sa_cons (sn_var (pv 2)) sa_nil))) sa_nil))))
    (sb_one (ss_ret (sx_lift (sn_tup (sa_cons (sn_tuple (by rfl) T.n_tuple (sn_comp rfl sc_l_board.nd (own := [("row", 3)]) (si_seq (sn_var (pv 0))) (blk_by (N := ["picture", "columns", "at", "row"]) (own := [("row", 3)]) [("picture", .cell), ("columns", .local), ("range", .globalImplicit), ("len", .globalImplicit), ("tuple", .globalImplicit)] [(".0", .local), ("row", .local), ("_law_runs", .globalImplicit)]) (fun _ _ _ _ _ => (pg_name (i := 3) sc_l_board.nd rfl (.inl rfl))) (g_name 3) (by decide) (fun _ _ _ _ _ => pts_none) (fun _ _ _ _ _ => (sn_cal0 c_l_runs hr (by decide) rfl (sa_cons (sn_var (pv 3)) sa_nil))))) (sa_cons (sn_tuple (by rfl) T.n_tuple (sn_var (pv 1))) sa_nil)))))))
theorem ok_l_lines {f : Addr} {fd : FuncData} (T : Nn K mg cl) (c_l_whole : Cal P w K mg base cl "_law_whole" 1 D_l_whole) (F : Fun K "_law_lines" "_law_lines" s_l_lines f fd) : FnOk P w K mg base (L2.CX P w) 2 f fd ["found", "due"] (spOf K cl D_l_lines) :=
  fn_okX (k := 1) (body := d_l_lines) F sc_l_lines (p := 2) (n := 4) rfl rfl fun cdv A outer s H E hr => by
    have tk : Takes (cxOf (L2.CX P w) P w K mg base ["found", "due", "k", "run"] "_law_lines" (defScope s_l_lines) f cdv A outer s H E) (fun cls d _ H => E cls d H) := takes_of rfl rfl rfl rfl
    have po : PassesOwn (model P w) (A.deeper (envOfC "_law_lines" (defScope s_l_lines) s.heap.objs.size f cdv)) (envOfC "_law_lines" (defScope s_l_lines) s.heap.objs.size f cdv) _ := passes_of (X := cxOf (L2.CX P w) P w K mg base ["found", "due", "k", "run"] "_law_lines" (defScope s_l_lines) f cdv A outer s H E) rfl
    exact (sb_cons (ss_if (st_w (sw_or (st_not (st_val (sn_isi (by rfl) T.n_isinstance (pe_bltn (by rfl) T.n_tuple (by decide +kernel) rfl) (sn_var (pv 0))))) (sw_or1 (st_ne hr (sn_len (by rfl) T.n_len (sn_var (pv 0))) (sn_len (by rfl) T.n_len (sn_var (pv 1)))))))
    (sb_one (ss_ret (sx_lift (sn_c pe_bl))))
    sb_nil)
    (sb_cons (ss_for po rfl (si_rng1 (by rfl) T.n_range (sn_len (by rfl) T.n_len (sn_var (pv 1)))) (pg_name (i := 2) sc_l_lines.nd rfl (.inl rfl)) (g_name 2)
    (sb_cons (ss_if (st_w (sw_or (st_not (st_val (sn_isi (by rfl) T.n_isinstance (pe_bltn (by rfl) T.n_tuple (by decide +kernel) rfl) (sn_idx (sn_var (pv 0)) (sn_var (pv 2)) (fun _ _ => rfl))))) (sw_or1 (st_ne hr (sn_idx (sn_var (pv 0)) (sn_var (pv 2)) (fun _ _ => rfl)) (sn_idx (sn_var (pv 1)) (sn_var (pv 2)) (fun _ _ => rfl))))))
    (sb_one (ss_ret (sx_lift (sn_c pe_bl))))
    sb_nil)
    (sb_one (ss_if (st_not (st_val (sn_all rfl (by rfl) T.n_all (sn_comp rfl sc_l_lines.nd (own := [("run", 3)]) (si_seq (sn_idx (sn_var (pv 0)) (sn_var (pv 2)) (fun _ _ => rfl))) (blk_by (N := ["found", "due", "k", "run"]) (own := [("run", 3)]) [("found", .local), ("due", .local), ("k", .local), ("isinstance", .globalImplicit), ("tuple", .globalImplicit), ("len", .globalImplicit), ("range", .globalImplicit), ("all", .globalImplicit)] [(".0", .local), ("run", .local), ("_law_whole", .globalImplicit)]) (fun _ _ _ _ _ => (pg_name (i := 3) sc_l_lines.nd rfl (.inl rfl))) (g_name 3) (by decide) (fun _ _ _ _ _ => pts_none) (fun _ _ _ _ _ => (sn_cal0 c_l_whole hr (by decide) rfl (sa_cons (sn_var (pv 3)) sa_nil)))))))
    (sb_one (ss_ret (sx_lift (sn_c pe_bl))))
    sb_nil))))
    (sb_one (ss_ret (sx_lift (sn_c pe_bl))))))
theorem ok_l_text {f : Addr} {fd : FuncData} (T : Nn K mg cl)  (F : Fun K "_law_text" "_law_text" s_l_text f fd) : FnOk P w K mg base (L2.CX P w) 1 f fd ["board"] (spOf K cl D_l_text) :=
  fn_okX (k := 0) (body := d_l_text) F sc_l_text (p := 1) (n := 7) rfl rfl fun cdv A outer s H E hr => by
    have tk : Takes (cxOf (L2.CX P w) P w K mg base ["board", "parts", "lines", "words", "runs", "word", "run"] "_law_text" (defScope s_l_text) f cdv A outer s H E) (fun cls d _ H => E cls d H) := takes_of rfl rfl rfl rfl
    have po : PassesOwn (model P w) (A.deeper (envOfC "_law_text" (defScope s_l_text) s.heap.objs.size f cdv)) (envOfC "_law_text" (defScope s_l_text) s.heap.objs.size f cdv) _ := passes_of (X := cxOf (L2.CX P w) P w K mg base ["board", "parts", "lines", "words", "runs", "word", "run"] "_law_text" (defScope s_l_text) f cdv A outer s H E) rfl
    exact (sb_cons (ss_set false sc_l_text.nd rfl (.inl rfl) (sn_lst sa_nil))
    (sb_cons (ss_for po rfl (si_seq (sn_var (pv 0))) (pg_name (i := 2) sc_l_text.nd rfl (.inl rfl)) (g_name 2)
    (sb_cons (ss_set false sc_l_text.nd rfl (.inl rfl) (sn_lst sa_nil))
    (sb_cons (ss_for po rfl (si_seq (sn_var (pv 2))) (pg_name (i := 4) sc_l_text.nd rfl (.inl rfl)) (g_name 4)
    (sb_cons (ss_set true sc_l_text.nd rfl (.inl rfl) (sn_join (sn_c pe_str) (sn_comp rfl sc_l_text.nd (own := [("run", 6)]) (si_seq (sn_var (pv 4))) (blk_by (N := ["board", "parts", "lines", "words", "runs", "word", "run"]) (own := [("run", 6)]) [("board", .local), ("parts", .local), ("lines", .local), ("words", .local), ("runs", .local), ("word", .local)] [(".0", .local), ("run", .local), ("str", .globalImplicit)]) (fun _ _ _ _ _ => (pg_name (i := 6) sc_l_text.nd rfl (.inl rfl))) (g_name 6) (by decide) (fun _ _ _ _ _ => pts_none) (fun _ _ _ _ _ => (sn_str (by rfl) T.n_str (sn_var (pv 6)))))))
    (sb_cons (ss_if (st_eq hr (sn_var (pv 4)) (sn_tup sa_nil))
    (sb_one (ss_set true sc_l_text.nd rfl (.inl rfl) (sn_c pe_str)))
    sb_nil)
    (sb_one (ss_app (sp_name 3 (pv 3)) (sx_lift (sn_var (pv 5))))))))
    (sb_one (ss_app (sp_name 1 (pv 1)) (sx_lift (sn_join (sn_c pe_str) (sn_var (pv 3)))))))))
    (sb_one (ss_ret (sx_lift (sn_add (sn_add (sn_idx (sn_var (pv 1)) (sn_c pe_int) (fun _ _ => rfl)) (sn_c pe_str)) (sn_idx (sn_var (pv 1)) (sn_c pe_int) (fun _ _ => rfl))))))))
theorem ok_l_refused {f : Addr} {fd : FuncData} (T : Nn K mg cl)  (F : Fun K "_law_refused" "_law_refused" s_l_refused f fd) : FnOk P w K mg base (L2.CX P w) 1 f fd ["marks", "which"] (spOf K cl D_l_refused) :=
  fn_okX (k := 0) (body := d_l_refused) F sc_l_refused (p := 2) (n := 3) rfl rfl fun cdv A outer s H E hr => by
    have tk : Takes (cxOf (L2.CX P w) P w K mg base ["marks", "which", "k"] "_law_refused" (defScope s_l_refused) f cdv A outer s H E) (fun cls d _ H => E cls d H) := takes_of rfl rfl rfl rfl
    have po : PassesOwn (model P w) (A.deeper (envOfC "_law_refused" (defScope s_l_refused) s.heap.objs.size f cdv)) (envOfC "_law_refused" (defScope s_l_refused) s.heap.objs.size f cdv) _ := passes_of (X := cxOf (L2.CX P w) P w K mg base ["marks", "which", "k"] "_law_refused" (defScope s_l_refused) f cdv A outer s H E) rfl
    exact (sb_one (ss_ret (sx_lift (sn_eq hr (sn_var (pv 0)) (sn_add (sn_comp rfl sc_l_refused.nd (own := [("k", 2)]) (si_rng1 (by rfl) T.n_range (sn_c pe_int)) (blk_by (N := ["marks", "which", "k"]) (own := [("k", 2)]) [("marks", .local), ("which", .cell), ("range", .globalImplicit)] [(".0", .local), ("k", .local), ("which", .free)]) (fun _ _ _ _ _ => (pg_name (i := 2) sc_l_refused.nd rfl (.inl rfl))) (g_name 2) (by decide) (fun _ _ _ _ _ => pts_none) (fun _ _ _ _ _ => (sn_eq hr (sn_var (pv 2)) (sn_var (pv 1))))) (sn_lst (sa_cons (sn_c pe_bl) sa_nil)))))))
theorem ok_l_told {f : Addr} {fd : FuncData} (T : Nn K mg cl) (c_read : Cal P w K mg base cl "read" 3 D_read) (F : Fun K "_law_told" "_law_told" s_l_told f fd) : FnOk P w K mg base (L2.CX P w) 4 f fd ["text"] (spOf K cl D_l_told) :=
  fn_okX (k := 3) (body := d_l_told) F sc_l_told (p := 1) (n := 4) rfl rfl fun cdv A outer s H E hr => by
    have tk : Takes (cxOf (L2.CX P w) P w K mg base ["text", "found", "marks", "e"] "_law_told" (defScope s_l_told) f cdv A outer s H E) (fun cls d _ H => E cls d H) := takes_of rfl rfl rfl rfl
    have po : PassesOwn (model P w) (A.deeper (envOfC "_law_told" (defScope s_l_told) s.heap.objs.size f cdv)) (envOfC "_law_told" (defScope s_l_told) s.heap.objs.size f cdv) _ := passes_of (X := cxOf (L2.CX P w) P w K mg base ["text", "found", "marks", "e"] "_law_told" (defScope s_l_told) f cdv A outer s H E) rfl
    exact (sb_cons (ss_set true sc_l_told.nd rfl (.inl rfl) (sn_c pe_non))
    (sb_cons (ss_set true sc_l_told.nd rfl (.inl rfl) (sn_lst sa_nil))
    (sb_cons (ss_try (i := 3) (m := 2) (vs := [.ref (cl "NoLaying"), .ref (cl "NoNumber"), .ref (cl "TooMany"), .ref (cl "BadRun")]) (ws := [.ref (cl "Wide"), .ref (cl "NoNote"), .ty "ValueError"]) (cl := cl) errL T.ok rfl rfl sc_l_told.nd rfl rfl ⟨by rfl, by decide, .inl T.g_PaintError⟩ tk (fun W pn xe tk po =>
    (sb_one (ss_set true sc_l_told.nd rfl (.inl rfl) (sn_cal (cl := cl) c_read tk hr (by decide) rfl (sa_cons (sn_var (pv 0)) sa_nil))))) (fun a c oe pn hL hz hf =>
    (pss_cons (ps_set (i := 2) sc_l_told.nd rfl (.inl rfl) (pe_lst (pa_cons (pe_is (T.ok c hL).ex hz hf (by rfl) T.n_isinstance (pv 3) (pe_glob (by rfl) T.g_NoLaying rfl)) (pa_cons (pe_is (T.ok c hL).ex hz hf (by rfl) T.n_isinstance (pv 3) (pe_glob (by rfl) T.g_NoNumber rfl)) (pa_cons (pe_is (T.ok c hL).ex hz hf (by rfl) T.n_isinstance (pv 3) (pe_glob (by rfl) T.g_TooMany rfl)) (pa_cons (pe_is (T.ok c hL).ex hz hf (by rfl) T.n_isinstance (pv 3) (pe_glob (by rfl) T.g_BadRun rfl)) pa_nil)))))) (pss_one (ps_set (i := 2) sc_l_told.nd rfl (.inl rfl) (pe_op op_cat (pv 2) (pe_lst (pa_cons (pe_is (T.ok c hL).ex hz hf (by rfl) T.n_isinstance (pv 3) (pe_glob (by rfl) T.g_Wide rfl)) (pa_cons (pe_is (T.ok c hL).ex hz hf (by rfl) T.n_isinstance (pv 3) (pe_glob (by rfl) T.g_NoNote rfl)) (pa_cons (pe_is (T.ok c hL).ex hz hf (by rfl) T.n_isinstance (pv 3) (pe_bltn (by rfl) T.n_ValueError (by decide +kernel) rfl)) pa_nil))))))))))
    (sb_one (ss_ret (sx_lift (sn_tup (sa_cons (sn_var (pv 1)) (sa_cons (sn_var (pv 2)) sa_nil)))))))))
theorem ok_l_line_of {f : Addr} {fd : FuncData} (T : Nn K mg cl)  (F : Fun K "_law_line_of" "_law_line_of" s_l_line_of f fd) : FnOk P w K mg base (L2.CX P w) 1 f fd ["text"] (spOf K cl D_l_line_of) :=
  fn_okX (k := 0) (body := d_l_line_of) F sc_l_line_of (p := 1) (n := 4) rfl rfl fun cdv A outer s H E hr => by
    have tk : Takes (cxOf (L2.CX P w) P w K mg base ["text", "found", "word", "sign"] "_law_line_of" (defScope s_l_line_of) f cdv A outer s H E) (fun cls d _ H => E cls d H) := takes_of rfl rfl rfl rfl
    have po : PassesOwn (model P w) (A.deeper (envOfC "_law_line_of" (defScope s_l_line_of) s.heap.objs.size f cdv)) (envOfC "_law_line_of" (defScope s_l_line_of) s.heap.objs.size f cdv) _ := passes_of (X := cxOf (L2.CX P w) P w K mg base ["text", "found", "word", "sign"] "_law_line_of" (defScope s_l_line_of) f cdv A outer s H E) rfl
    exact (sb_cons (ss_if (st_eq hr (sn_var (pv 0)) (sn_c pe_str))
    (sb_one (ss_ret (sx_lift (sn_tup sa_nil))))
    sb_nil)
    (sb_cons (ss_set false sc_l_line_of.nd rfl (.inl rfl) (sn_lst sa_nil))
    (sb_cons (ss_for po rfl (si_seq (sn_split (sn_var (pv 0)) (sn_c pe_str))) (pg_name (i := 2) sc_l_line_of.nd rfl (.inl rfl)) (g_name 2)
    (sb_cons (ss_if (st_w (sw_or (st_not (st_chain op_lt op_lt (sn_c pe_int) (sn_len (by rfl) T.n_len (sn_var (pv 2))) (sn_c pe_int))) (sw_or (st_eq hr (sn_idx (sn_var (pv 2)) (sn_c pe_int) (fun _ _ => rfl)) (sn_c pe_str)) (sw_or1 (st_ne hr (sn_comp rfl sc_l_line_of.nd (own := [("sign", 3)]) (si_seq (sn_var (pv 2))) (blk_by (N := ["text", "found", "word", "sign"]) (own := [("sign", 3)]) [("text", .local), ("found", .local), ("word", .local), ("len", .globalImplicit), ("int", .globalImplicit), ("tuple", .globalImplicit)] [(".0", .local), ("sign", .local)]) (fun _ _ _ _ _ => (pg_name (i := 3) sc_l_line_of.nd rfl (.inl rfl))) (g_name 3) (by decide) (fun _ _ _ _ _ => (pts_some (st_ninS (sn_var (pv 3)) (sn_c pe_str)))) (fun _ _ _ _ _ => (sn_var (pv 3)))) (sn_lst sa_nil))))))
    (sb_one (ss_ret (sx_lift (sn_c pe_non))))
    sb_nil)
    (sb_one (ss_app (sp_name 1 (pv 1)) (sx_lift (sn_int (by rfl) T.n_int (sn_var (pv 2))))))))
    (sb_one (ss_ret (sx_lift (sn_tuple (by rfl) T.n_tuple (sn_var (pv 1)))))))))
theorem ok_l_due {f : Addr} {fd : FuncData} (T : Nn K mg cl) (c_l_line_of : Cal P w K mg base cl "_law_line_of" 1 D_l_line_of) (F : Fun K "_law_due" "_law_due" s_l_due f fd) : FnOk P w K mg base (L2.CX P w) 2 f fd ["text"] (spOf K cl D_l_due) :=
  fn_okX (k := 1) (body := d_l_due) F sc_l_due (p := 1) (n := 6) rfl rfl fun cdv A outer s H E hr => by
    have tk : Takes (cxOf (L2.CX P w) P w K mg base ["text", "parts", "rows", "columns", "runs", "line"] "_law_due" (defScope s_l_due) f cdv A outer s H E) (fun cls d _ H => E cls d H) := takes_of rfl rfl rfl rfl
    have po : PassesOwn (model P w) (A.deeper (envOfC "_law_due" (defScope s_l_due) s.heap.objs.size f cdv)) (envOfC "_law_due" (defScope s_l_due) s.heap.objs.size f cdv) _ := passes_of (X := cxOf (L2.CX P w) P w K mg base ["text", "parts", "rows", "columns", "runs", "line"] "_law_due" (defScope s_l_due) f cdv A outer s H E) rfl
    exact (sb_cons (ss_set true sc_l_due.nd rfl (.inl rfl) (sn_split (sn_var (pv 0)) (sn_c pe_str)))
    (sb_cons (ss_if (st_ne hr (sn_len (by rfl) T.n_len (sn_var (pv 1))) (sn_c pe_int))
    (sb_one (ss_ret (sx_lift (sn_c pe_int))))
    sb_nil)
    (sb_cons (ss_setLc true rfl sc_l_due.nd rfl rfl (sw_true rfl rfl rfl (by decide +kernel)) (own := [("line", 5)]) (si_seq (sn_split (sn_idx (sn_var (pv 1)) (sn_c pe_int) (fun _ _ => rfl)) (sn_c pe_str))) (blk_by (N := ["text", "parts", "rows", "columns", "runs", "line"]) (own := [("line", 5)]) [("text", .local), ("parts", .local), ("rows", .local), ("columns", .local), ("runs", .local), ("len", .globalImplicit), ("sum", .globalImplicit), ("tuple", .globalImplicit)] [(".0", .local), ("line", .local), ("_law_line_of", .globalImplicit)]) (fun _ _ _ _ _ => (pg_name (i := 5) sc_l_due.nd rfl (.inl rfl))) (g_name 5) (by decide) (fun _ _ _ _ _ => pts_none) (fun _ _ _ _ _ => (sn_cal0 c_l_line_of hr (by decide) rfl (sa_cons (sn_var (pv 5)) sa_nil))))
    (sb_cons (ss_setLc true rfl sc_l_due.nd rfl rfl (sw_true rfl rfl rfl (by decide +kernel)) (own := [("line", 5)]) (si_seq (sn_split (sn_idx (sn_var (pv 1)) (sn_c pe_int) (fun _ _ => rfl)) (sn_c pe_str))) (blk_by (N := ["text", "parts", "rows", "columns", "runs", "line"]) (own := [("line", 5)]) [("text", .local), ("parts", .local), ("rows", .local), ("columns", .local), ("runs", .local), ("len", .globalImplicit), ("sum", .globalImplicit), ("tuple", .globalImplicit)] [(".0", .local), ("line", .local), ("_law_line_of", .globalImplicit)]) (fun _ _ _ _ _ => (pg_name (i := 5) sc_l_due.nd rfl (.inl rfl))) (g_name 5) (by decide) (fun _ _ _ _ _ => pts_none) (fun _ _ _ _ _ => (sn_cal0 c_l_line_of hr (by decide) rfl (sa_cons (sn_var (pv 5)) sa_nil))))
    (sb_cons (ss_if (st_w (sw_or (st_in hr (sn_c pe_non) (sn_var (pv 2))) (sw_or1 (st_in hr (sn_c pe_non) (sn_var (pv 3))))))
    (sb_one (ss_ret (sx_lift (sn_c pe_int))))
    sb_nil)
    (sb_cons (ss_if (st_w (sw_or (st_gt (sn_len (by rfl) T.n_len (sn_var (pv 2))) (sn_c pe_int)) (sw_or1 (st_gt (sn_len (by rfl) T.n_len (sn_var (pv 3))) (sn_c pe_int)))))
    (sb_one (ss_ret (sx_lift (sn_c pe_int))))
    sb_nil)
    (sb_cons (ss_for po rfl (si_seq (sn_var (pv 2))) (pg_name (i := 4) sc_l_due.nd rfl (.inl rfl)) (g_name 4)
    (sb_one (ss_if (st_w (sw_and (st_ne hr (sn_var (pv 4)) (sn_tup sa_nil)) (sw_and1 (st_gt (sn_sub (sn_add (sn_sum rfl (by rfl) T.n_sum (sn_var (pv 4))) (sn_len (by rfl) T.n_len (sn_var (pv 4)))) (sn_c pe_int)) (sn_len (by rfl) T.n_len (sn_var (pv 3)))))))
    (sb_one (ss_ret (sx_lift (sn_c pe_int))))
    sb_nil)))
    (sb_cons (ss_for po rfl (si_seq (sn_var (pv 3))) (pg_name (i := 4) sc_l_due.nd rfl (.inl rfl)) (g_name 4)
    (sb_one (ss_if (st_w (sw_and (st_ne hr (sn_var (pv 4)) (sn_tup sa_nil)) (sw_and1 (st_gt (sn_sub (sn_add (sn_sum rfl (by rfl) T.n_sum (sn_var (pv 4))) (sn_len (by rfl) T.n_len (sn_var (pv 4)))) (sn_c pe_int)) (sn_len (by rfl) T.n_len (sn_var (pv 2)))))))
    (sb_one (ss_ret (sx_lift (sn_c pe_int))))
    sb_nil)))
    (sb_one (ss_ret (sx_lift (sn_tup (sa_cons (sn_tuple (by rfl) T.n_tuple (sn_var (pv 2))) (sa_cons (sn_tuple (by rfl) T.n_tuple (sn_var (pv 3))) sa_nil))))))))))))))
theorem ok_l_odd {f : Addr} {fd : FuncData} (T : Nn K mg cl)  (F : Fun K "_law_odd" "_law_odd" s_l_odd f fd) : FnOk P w K mg base (L2.CX P w) 1 f fd ["cell"] (spOf K cl D_l_odd) :=
  fn_okX (k := 0) (body := d_l_odd) F sc_l_odd (p := 1) (n := 1) rfl rfl fun cdv A outer s H E hr => by
    have tk : Takes (cxOf (L2.CX P w) P w K mg base ["cell"] "_law_odd" (defScope s_l_odd) f cdv A outer s H E) (fun cls d _ H => E cls d H) := takes_of rfl rfl rfl rfl
    have po : PassesOwn (model P w) (A.deeper (envOfC "_law_odd" (defScope s_l_odd) s.heap.objs.size f cdv)) (envOfC "_law_odd" (defScope s_l_odd) s.heap.objs.size f cdv) _ := passes_of (X := cxOf (L2.CX P w) P w K mg base ["cell"] "_law_odd" (defScope s_l_odd) f cdv A outer s H E) rfl
    exact (sb_one (ss_ret (sx_lift (sn_idx (sn_lst (sa_cons (sn_c pe_str) (sa_cons (sn_c pe_str) (sa_cons (sn_c pe_str) (sa_cons (sn_c pe_str) (sa_cons (sn_c pe_str) (sa_cons (sn_c pe_str) (sa_cons (sn_c pe_str) (sa_cons (sn_c pe_str) (sa_cons (sn_c pe_str) (sa_cons (sn_c pe_str) sa_nil))))))))))) (sn_mod (sn_var (pv 0)) (sn_c pe_int)) (fun _ _ => rfl)))))
theorem ok_l_lined {f : Addr} {fd : FuncData} (T : Nn K mg cl)  (F : Fun K "_law_lined" "_law_lined" s_l_lined f fd) : FnOk P w K mg base (L2.CX P w) 1 f fd ["text", "cell", "other"] (spOf K cl D_l_lined) :=
  fn_okX (k := 0) (body := d_l_lined) F sc_l_lined (p := 3) (n := 6) rfl rfl fun cdv A outer s H E hr => by
    have tk : Takes (cxOf (L2.CX P w) P w K mg base ["text", "cell", "other", "parts", "lines", "odd"] "_law_lined" (defScope s_l_lined) f cdv A outer s H E) (fun cls d _ H => E cls d H) := takes_of rfl rfl rfl rfl
    have po : PassesOwn (model P w) (A.deeper (envOfC "_law_lined" (defScope s_l_lined) s.heap.objs.size f cdv)) (envOfC "_law_lined" (defScope s_l_lined) s.heap.objs.size f cdv) _ := passes_of (X := cxOf (L2.CX P w) P w K mg base ["text", "cell", "other", "parts", "lines", "odd"] "_law_lined" (defScope s_l_lined) f cdv A outer s H E) rfl
    exact (sb_cons (ss_set false sc_l_lined.nd rfl (.inl rfl) (sn_split (sn_var (pv 0)) (sn_c pe_str)))
    (sb_cons (ss_set false sc_l_lined.nd rfl (.inl rfl) (sn_split (sn_idx (sn_var (pv 3)) (sn_mod (sn_var (pv 1)) (sn_c pe_int)) (fun _ _ => rfl)) (sn_c pe_str)))
    (sb_cons (ss_set true sc_l_lined.nd rfl (.inl rfl) (sn_lst (sa_cons (sn_c pe_str) (sa_cons (sn_c pe_str) (sa_cons (sn_c pe_str) (sa_cons (sn_c pe_str) (sa_cons (sn_c pe_str) (sa_cons (sn_c pe_str) (sa_cons (sn_c pe_str) (sa_cons (sn_c pe_str) (sa_cons (sn_c pe_str) (sa_cons (sn_c pe_str) (sa_cons (sn_c pe_str) (sa_cons (sn_c pe_str) (sa_cons (sn_c pe_str) (sa_cons (sn_c pe_str) (sa_cons (sn_c pe_str) (sa_cons (sn_c pe_str) sa_nil))))))))))))))))))
    (sb_cons (ss_put (sp_name 4 (pv 4)) (sn_mod (sn_div (sn_var (pv 1)) (sn_c pe_int)) (sn_len (by rfl) T.n_len (sn_var (pv 4)))) (sx_lift (sn_idx (sn_var (pv 5)) (sn_mod (sn_var (pv 2)) (sn_c pe_int)) (fun _ _ => rfl))))
    (sb_cons (ss_put (sp_name 3 (pv 3)) (sn_mod (sn_var (pv 1)) (sn_c pe_int)) (sx_lift (sn_join (sn_c pe_str) (sn_var (pv 4)))))
    (sb_one (ss_ret (sx_lift (sn_add (sn_add (sn_idx (sn_var (pv 3)) (sn_c pe_int) (fun _ _ => rfl)) (sn_c pe_str)) (sn_idx (sn_var (pv 3)) (sn_c pe_int) (fun _ _ => rfl)))))))))))
theorem ok_law {f : Addr} {fd : FuncData} (T : Nn K mg cl) (c_l_board : Cal P w K mg base cl "_law_board" 2 D_l_board) (c_l_cell_at : Cal P w K mg base cl "_law_cell_at" 1 D_l_cell_at) (c_l_due : Cal P w K mg base cl "_law_due" 2 D_l_due) (c_l_lined : Cal P w K mg base cl "_law_lined" 1 D_l_lined) (c_l_lines : Cal P w K mg base cl "_law_lines" 2 D_l_lines) (c_l_odd : Cal P w K mg base cl "_law_odd" 1 D_l_odd) (c_l_picture : Cal P w K mg base cl "_law_picture" 2 D_l_picture) (c_l_refused : Cal P w K mg base cl "_law_refused" 1 D_l_refused) (c_l_text : Cal P w K mg base cl "_law_text" 1 D_l_text) (c_l_told : Cal P w K mg base cl "_law_told" 4 D_l_told) (F : Fun K "law" "law" s_law f fd) (math : ∀ ns : List Int, ns.length ≤ 63 → (∀ z ∈ ns, z.natAbs.log2 ≤ 1048576) → finD (d_law ([some (.s ns)] ++ List.replicate 7 none)) = .ok (.d (.bool true))) :
    FnOk P w K mg base CX0 5 f fd ["script"] (spLaw K) :=
  fn_ok0 (k := 4) (cl := cl) (body := d_law) F sc_law (fun cdv A outer s H E hr =>
    (sb_cons (ss_set true sc_law.nd rfl (.inl rfl) (sn_cal (cl := cl) c_l_cell_at takes0 hr (by decide) rfl (sa_cons (sn_var (pv 0)) (sa_cons (sn_c pe_int) sa_nil))))
    (sb_cons (ss_set true sc_law.nd rfl (.inl rfl) (sn_cal (cl := cl) c_l_text takes0 hr (by decide) rfl (sa_cons (sn_cal (cl := cl) c_l_board takes0 hr (by decide) rfl (sa_cons (sn_cal (cl := cl) c_l_picture takes0 hr (by decide) rfl (sa_cons (sn_cal (cl := cl) c_l_cell_at takes0 hr (by decide) rfl (sa_cons (sn_var (pv 0)) (sa_cons (sn_c pe_int) sa_nil))) (sa_cons (sn_add (sn_c pe_int) (sn_mod (sn_var (pv 1)) (sn_c pe_int))) (sa_cons (sn_add (sn_c pe_int) (sn_mod (sn_div (sn_var (pv 1)) (sn_c pe_int)) (sn_c pe_int))) sa_nil)))) sa_nil)) sa_nil)))
    (sb_cons (ss_set true sc_law.nd rfl (.inl rfl) (sn_mod (sn_cal (cl := cl) c_l_cell_at takes0 hr (by decide) rfl (sa_cons (sn_var (pv 0)) (sa_cons (sn_c pe_int) sa_nil))) (sn_c pe_int)))
    (sb_cons (ss_set true sc_law.nd rfl (.inl rfl) (sn_mod (sn_cal (cl := cl) c_l_cell_at takes0 hr (by decide) rfl (sa_cons (sn_var (pv 0)) (sa_cons (sn_c pe_int) sa_nil))) (sn_add (sn_len (by rfl) T.n_len (sn_var (pv 2))) (sn_c pe_int))))
    (sb_cons (ss_set true sc_law.nd rfl (.inl rfl) (sn_idx (sn_c pe_str) (sn_mod (sn_cal (cl := cl) c_l_cell_at takes0 hr (by decide) rfl (sa_cons (sn_var (pv 0)) (sa_cons (sn_c pe_int) sa_nil))) (sn_c pe_int)) (fun _ _ => rfl)))
    (sb_cons (ss_if (st_w (sw_or (st_eq hr (sn_var (pv 3)) (sn_c pe_int)) (sw_or1 (st_eq hr (sn_var (pv 3)) (sn_c pe_int)))))
    (sb_one (ss_set true sc_law.nd rfl (.inl rfl) (sn_add (sn_add (sn_sl (sn_var (pv 2)) so_none (so_some (sn_var (pv 4)))) (sn_var (pv 5))) (sn_sl (sn_var (pv 2)) (so_some (sn_var (pv 4))) so_none))))
    sb_nil)
    (sb_cons (ss_if (st_eq hr (sn_var (pv 3)) (sn_c pe_int))
    (sb_one (ss_set true sc_law.nd rfl (.inl rfl) (sn_add (sn_add (sn_sl (sn_var (pv 2)) so_none (so_some (sn_var (pv 4)))) (sn_var (pv 5))) (sn_sl (sn_var (pv 2)) (so_some (sn_add (sn_var (pv 4)) (sn_c pe_int))) so_none))))
    sb_nil)
    (sb_cons (ss_if (st_eq hr (sn_var (pv 3)) (sn_c pe_int))
    (sb_one (ss_set true sc_law.nd rfl (.inl rfl) (sn_add (sn_sl (sn_var (pv 2)) so_none (so_some (sn_var (pv 4)))) (sn_sl (sn_var (pv 2)) (so_some (sn_add (sn_var (pv 4)) (sn_c pe_int))) so_none))))
    sb_nil)
    (sb_cons (ss_if (st_w (sw_or (st_eq hr (sn_var (pv 3)) (sn_c pe_int)) (sw_or1 (st_eq hr (sn_var (pv 3)) (sn_c pe_int)))))
    (sb_one (ss_set true sc_law.nd rfl (.inl rfl) (sn_cal (cl := cl) c_l_lined takes0 hr (by decide) rfl (sa_cons (sn_var (pv 2)) (sa_cons (sn_cal (cl := cl) c_l_cell_at takes0 hr (by decide) rfl (sa_cons (sn_var (pv 0)) (sa_cons (sn_c pe_int) sa_nil))) (sa_cons (sn_cal (cl := cl) c_l_cell_at takes0 hr (by decide) rfl (sa_cons (sn_var (pv 0)) (sa_cons (sn_c pe_int) sa_nil))) sa_nil))))))
    sb_nil)
    (sb_cons (ss_if (st_eq hr (sn_var (pv 3)) (sn_c pe_int))
    (sb_one (ss_set true sc_law.nd rfl (.inl rfl) (sn_cal (cl := cl) c_l_odd takes0 hr (by decide) rfl (sa_cons (sn_cal (cl := cl) c_l_cell_at takes0 hr (by decide) rfl (sa_cons (sn_var (pv 0)) (sa_cons (sn_c pe_int) sa_nil))) sa_nil))))
    sb_nil)
    (sb_cons (ss_set true sc_law.nd rfl (.inl rfl) (sn_cal (cl := cl) c_l_due takes0 hr (by decide) rfl (sa_cons (sn_var (pv 2)) sa_nil)))
    (sb_cons (ss_set true sc_law.nd rfl (.inl rfl) (sn_cal (cl := cl) c_l_told takes0 hr (by decide) rfl (sa_cons (sn_var (pv 2)) sa_nil)))
    (sb_cons (ss_if (st_not (st_val (sn_isi (by rfl) T.n_isinstance (pe_bltn (by rfl) T.n_tuple (by decide +kernel) rfl) (sn_var (pv 6)))))
    (sb_one (ss_ret (sx_lift (sn_cal (cl := cl) c_l_refused takes0 hr (by decide) rfl (sa_cons (sn_idx (sn_var (pv 7)) (sn_c pe_int) (fun _ _ => rfl)) (sa_cons (sn_var (pv 6)) sa_nil))))))
    sb_nil)
    (sb_cons (ss_if (st_w (sw_or (st_ne hr (sn_idx (sn_var (pv 7)) (sn_c pe_int) (fun _ _ => rfl)) (sn_lst sa_nil)) (sw_or (st_not (st_val (sn_isi (by rfl) T.n_isinstance (pe_bltn (by rfl) T.n_tuple (by decide +kernel) rfl) (sn_idx (sn_var (pv 7)) (sn_c pe_int) (fun _ _ => rfl))))) (sw_or1 (st_ne hr (sn_len (by rfl) T.n_len (sn_idx (sn_var (pv 7)) (sn_c pe_int) (fun _ _ => rfl))) (sn_c pe_int))))))
    (sb_one (ss_ret (sx_lift (sn_c pe_bl))))
    sb_nil)
    (sb_one (ss_ret (sx_lift (sn_and (sn_cal (cl := cl) c_l_lines takes0 hr (by decide) rfl (sa_cons (sn_idx (sn_idx (sn_var (pv 7)) (sn_c pe_int) (fun _ _ => rfl)) (sn_c pe_int) (fun _ _ => rfl)) (sa_cons (sn_idx (sn_var (pv 6)) (sn_c pe_int) (fun _ _ => rfl)) sa_nil))) (sn_one (sn_cal (cl := cl) c_l_lines takes0 hr (by decide) rfl (sa_cons (sn_idx (sn_idx (sn_var (pv 7)) (sn_c pe_int) (fun _ _ => rfl)) (sn_c pe_int) (fun _ _ => rfl)) (sa_cons (sn_idx (sn_var (pv 6)) (sn_c pe_int) (fun _ _ => rfl)) sa_nil))))))))))))))))))))))) (fun ns h hz d e => by rw [← e]; exact math ns h hz) rfl
end
theorem all_mk (math : ∀ ns : List Int, ns.length ≤ 63 → (∀ z ∈ ns, z.natAbs.log2 ≤ 1048576) → finD (d_law ([some (.s ns)] ++ List.replicate 7 none)) = .ok (.d (.bool true))) {l : PySem.W.OpenLaw} {w : World} {K : PySem.W.Frag} {h : Heap} {mg : Str → Option Value} {fa : Addr} (X : K.In h) (G : h.Ns mainGlobals mg) (hfa : mg "law" = some (.ref fa))
    {od0 an0 : Option Addr} {sl0 : Array (Option Value)} {oc0 kV0 dc0 pm0 cd0 ct0 : Value} {f0 : Addr}
    (a0 : PySem.W.nsIn K mainGlobals "checked" = some (some (.ref f0))) (l0 : K.lookup f0 = some ⟨oc0, od0, .func (PySem.W.fnOf "checked" "checked" (defArgs s_checked) (defBody s_checked) (defScope s_checked) .none kV0 dc0 pm0 an0 cd0 ct0), sl0⟩) (c0 : PySem.W.codeIn K cd0 "checked" = true) (k0 : PySem.W.keepIn K (.ref f0) = true)
    {od1 an1 : Option Addr} {sl1 : Array (Option Value)} {oc1 kV1 dc1 pm1 cd1 ct1 : Value} {f1 : Addr}
    (a1 : PySem.W.nsIn K mainGlobals "looked" = some (some (.ref f1))) (l1 : K.lookup f1 = some ⟨oc1, od1, .func (PySem.W.fnOf "looked" "looked" (defArgs s_looked) (defBody s_looked) (defScope s_looked) .none kV1 dc1 pm1 an1 cd1 ct1), sl1⟩) (c1 : PySem.W.codeIn K cd1 "looked" = true) (k1 : PySem.W.keepIn K (.ref f1) = true)
    {od2 an2 : Option Addr} {sl2 : Array (Option Value)} {oc2 kV2 dc2 pm2 cd2 ct2 : Value} {f2 : Addr}
    (a2 : PySem.W.nsIn K mainGlobals "run_of" = some (some (.ref f2))) (l2 : K.lookup f2 = some ⟨oc2, od2, .func (PySem.W.fnOf "run_of" "run_of" (defArgs s_run_of) (defBody s_run_of) (defScope s_run_of) .none kV2 dc2 pm2 an2 cd2 ct2), sl2⟩) (c2 : PySem.W.codeIn K cd2 "run_of" = true) (k2 : PySem.W.keepIn K (.ref f2) = true)
    {od3 an3 : Option Addr} {sl3 : Array (Option Value)} {oc3 kV3 dc3 pm3 cd3 ct3 : Value} {f3 : Addr}
    (a3 : PySem.W.nsIn K mainGlobals "runs_read" = some (some (.ref f3))) (l3 : K.lookup f3 = some ⟨oc3, od3, .func (PySem.W.fnOf "runs_read" "runs_read" (defArgs s_runs_read) (defBody s_runs_read) (defScope s_runs_read) .none kV3 dc3 pm3 an3 cd3 ct3), sl3⟩) (c3 : PySem.W.codeIn K cd3 "runs_read" = true) (k3 : PySem.W.keepIn K (.ref f3) = true)
    {od4 an4 : Option Addr} {sl4 : Array (Option Value)} {oc4 kV4 dc4 pm4 cd4 ct4 : Value} {f4 : Addr}
    (a4 : PySem.W.nsIn K mainGlobals "read" = some (some (.ref f4))) (l4 : K.lookup f4 = some ⟨oc4, od4, .func (PySem.W.fnOf "read" "read" (defArgs s_read) (defBody s_read) (defScope s_read) .none kV4 dc4 pm4 an4 cd4 ct4), sl4⟩) (c4 : PySem.W.codeIn K cd4 "read" = true) (k4 : PySem.W.keepIn K (.ref f4) = true)
    {od5 an5 : Option Addr} {sl5 : Array (Option Value)} {oc5 kV5 dc5 pm5 cd5 ct5 : Value} {f5 : Addr}
    (a5 : PySem.W.nsIn K mainGlobals "_law_cell_at" = some (some (.ref f5))) (l5 : K.lookup f5 = some ⟨oc5, od5, .func (PySem.W.fnOf "_law_cell_at" "_law_cell_at" (defArgs s_l_cell_at) (defBody s_l_cell_at) (defScope s_l_cell_at) .none kV5 dc5 pm5 an5 cd5 ct5), sl5⟩) (c5 : PySem.W.codeIn K cd5 "_law_cell_at" = true) (k5 : PySem.W.keepIn K (.ref f5) = true)
    {od6 an6 : Option Addr} {sl6 : Array (Option Value)} {oc6 kV6 dc6 pm6 cd6 ct6 : Value} {f6 : Addr}
    (a6 : PySem.W.nsIn K mainGlobals "_law_whole" = some (some (.ref f6))) (l6 : K.lookup f6 = some ⟨oc6, od6, .func (PySem.W.fnOf "_law_whole" "_law_whole" (defArgs s_l_whole) (defBody s_l_whole) (defScope s_l_whole) .none kV6 dc6 pm6 an6 cd6 ct6), sl6⟩) (c6 : PySem.W.codeIn K cd6 "_law_whole" = true) (k6 : PySem.W.keepIn K (.ref f6) = true)
    {od7 an7 : Option Addr} {sl7 : Array (Option Value)} {oc7 kV7 dc7 pm7 cd7 ct7 : Value} {f7 : Addr}
    (a7 : PySem.W.nsIn K mainGlobals "_law_mix" = some (some (.ref f7))) (l7 : K.lookup f7 = some ⟨oc7, od7, .func (PySem.W.fnOf "_law_mix" "_law_mix" (defArgs s_l_mix) (defBody s_l_mix) (defScope s_l_mix) .none kV7 dc7 pm7 an7 cd7 ct7), sl7⟩) (c7 : PySem.W.codeIn K cd7 "_law_mix" = true) (k7 : PySem.W.keepIn K (.ref f7) = true)
    {od8 an8 : Option Addr} {sl8 : Array (Option Value)} {oc8 kV8 dc8 pm8 cd8 ct8 : Value} {f8 : Addr}
    (a8 : PySem.W.nsIn K mainGlobals "_law_runs" = some (some (.ref f8))) (l8 : K.lookup f8 = some ⟨oc8, od8, .func (PySem.W.fnOf "_law_runs" "_law_runs" (defArgs s_l_runs) (defBody s_l_runs) (defScope s_l_runs) .none kV8 dc8 pm8 an8 cd8 ct8), sl8⟩) (c8 : PySem.W.codeIn K cd8 "_law_runs" = true) (k8 : PySem.W.keepIn K (.ref f8) = true)
    {od9 an9 : Option Addr} {sl9 : Array (Option Value)} {oc9 kV9 dc9 pm9 cd9 ct9 : Value} {f9 : Addr}
    (a9 : PySem.W.nsIn K mainGlobals "_law_picture" = some (some (.ref f9))) (l9 : K.lookup f9 = some ⟨oc9, od9, .func (PySem.W.fnOf "_law_picture" "_law_picture" (defArgs s_l_picture) (defBody s_l_picture) (defScope s_l_picture) .none kV9 dc9 pm9 an9 cd9 ct9), sl9⟩) (c9 : PySem.W.codeIn K cd9 "_law_picture" = true) (k9 : PySem.W.keepIn K (.ref f9) = true)
    {od10 an10 : Option Addr} {sl10 : Array (Option Value)} {oc10 kV10 dc10 pm10 cd10 ct10 : Value} {f10 : Addr}
    (a10 : PySem.W.nsIn K mainGlobals "_law_column" = some (some (.ref f10))) (l10 : K.lookup f10 = some ⟨oc10, od10, .func (PySem.W.fnOf "_law_column" "_law_column" (defArgs s_l_column) (defBody s_l_column) (defScope s_l_column) .none kV10 dc10 pm10 an10 cd10 ct10), sl10⟩) (c10 : PySem.W.codeIn K cd10 "_law_column" = true) (k10 : PySem.W.keepIn K (.ref f10) = true)
    {od11 an11 : Option Addr} {sl11 : Array (Option Value)} {oc11 kV11 dc11 pm11 cd11 ct11 : Value} {f11 : Addr}
    (a11 : PySem.W.nsIn K mainGlobals "_law_board" = some (some (.ref f11))) (l11 : K.lookup f11 = some ⟨oc11, od11, .func (PySem.W.fnOf "_law_board" "_law_board" (defArgs s_l_board) (defBody s_l_board) (defScope s_l_board) .none kV11 dc11 pm11 an11 cd11 ct11), sl11⟩) (c11 : PySem.W.codeIn K cd11 "_law_board" = true) (k11 : PySem.W.keepIn K (.ref f11) = true)
    {od12 an12 : Option Addr} {sl12 : Array (Option Value)} {oc12 kV12 dc12 pm12 cd12 ct12 : Value} {f12 : Addr}
    (a12 : PySem.W.nsIn K mainGlobals "_law_lines" = some (some (.ref f12))) (l12 : K.lookup f12 = some ⟨oc12, od12, .func (PySem.W.fnOf "_law_lines" "_law_lines" (defArgs s_l_lines) (defBody s_l_lines) (defScope s_l_lines) .none kV12 dc12 pm12 an12 cd12 ct12), sl12⟩) (c12 : PySem.W.codeIn K cd12 "_law_lines" = true) (k12 : PySem.W.keepIn K (.ref f12) = true)
    {od13 an13 : Option Addr} {sl13 : Array (Option Value)} {oc13 kV13 dc13 pm13 cd13 ct13 : Value} {f13 : Addr}
    (a13 : PySem.W.nsIn K mainGlobals "_law_text" = some (some (.ref f13))) (l13 : K.lookup f13 = some ⟨oc13, od13, .func (PySem.W.fnOf "_law_text" "_law_text" (defArgs s_l_text) (defBody s_l_text) (defScope s_l_text) .none kV13 dc13 pm13 an13 cd13 ct13), sl13⟩) (c13 : PySem.W.codeIn K cd13 "_law_text" = true) (k13 : PySem.W.keepIn K (.ref f13) = true)
    {od14 an14 : Option Addr} {sl14 : Array (Option Value)} {oc14 kV14 dc14 pm14 cd14 ct14 : Value} {f14 : Addr}
    (a14 : PySem.W.nsIn K mainGlobals "_law_refused" = some (some (.ref f14))) (l14 : K.lookup f14 = some ⟨oc14, od14, .func (PySem.W.fnOf "_law_refused" "_law_refused" (defArgs s_l_refused) (defBody s_l_refused) (defScope s_l_refused) .none kV14 dc14 pm14 an14 cd14 ct14), sl14⟩) (c14 : PySem.W.codeIn K cd14 "_law_refused" = true) (k14 : PySem.W.keepIn K (.ref f14) = true)
    {od15 an15 : Option Addr} {sl15 : Array (Option Value)} {oc15 kV15 dc15 pm15 cd15 ct15 : Value} {f15 : Addr}
    (a15 : PySem.W.nsIn K mainGlobals "_law_told" = some (some (.ref f15))) (l15 : K.lookup f15 = some ⟨oc15, od15, .func (PySem.W.fnOf "_law_told" "_law_told" (defArgs s_l_told) (defBody s_l_told) (defScope s_l_told) .none kV15 dc15 pm15 an15 cd15 ct15), sl15⟩) (c15 : PySem.W.codeIn K cd15 "_law_told" = true) (k15 : PySem.W.keepIn K (.ref f15) = true)
    {od16 an16 : Option Addr} {sl16 : Array (Option Value)} {oc16 kV16 dc16 pm16 cd16 ct16 : Value} {f16 : Addr}
    (a16 : PySem.W.nsIn K mainGlobals "_law_line_of" = some (some (.ref f16))) (l16 : K.lookup f16 = some ⟨oc16, od16, .func (PySem.W.fnOf "_law_line_of" "_law_line_of" (defArgs s_l_line_of) (defBody s_l_line_of) (defScope s_l_line_of) .none kV16 dc16 pm16 an16 cd16 ct16), sl16⟩) (c16 : PySem.W.codeIn K cd16 "_law_line_of" = true) (k16 : PySem.W.keepIn K (.ref f16) = true)
    {od17 an17 : Option Addr} {sl17 : Array (Option Value)} {oc17 kV17 dc17 pm17 cd17 ct17 : Value} {f17 : Addr}
    (a17 : PySem.W.nsIn K mainGlobals "_law_due" = some (some (.ref f17))) (l17 : K.lookup f17 = some ⟨oc17, od17, .func (PySem.W.fnOf "_law_due" "_law_due" (defArgs s_l_due) (defBody s_l_due) (defScope s_l_due) .none kV17 dc17 pm17 an17 cd17 ct17), sl17⟩) (c17 : PySem.W.codeIn K cd17 "_law_due" = true) (k17 : PySem.W.keepIn K (.ref f17) = true)
    {od18 an18 : Option Addr} {sl18 : Array (Option Value)} {oc18 kV18 dc18 pm18 cd18 ct18 : Value} {f18 : Addr}
    (a18 : PySem.W.nsIn K mainGlobals "_law_odd" = some (some (.ref f18))) (l18 : K.lookup f18 = some ⟨oc18, od18, .func (PySem.W.fnOf "_law_odd" "_law_odd" (defArgs s_l_odd) (defBody s_l_odd) (defScope s_l_odd) .none kV18 dc18 pm18 an18 cd18 ct18), sl18⟩) (c18 : PySem.W.codeIn K cd18 "_law_odd" = true) (k18 : PySem.W.keepIn K (.ref f18) = true)
    {od19 an19 : Option Addr} {sl19 : Array (Option Value)} {oc19 kV19 dc19 pm19 cd19 ct19 : Value} {f19 : Addr}
    (a19 : PySem.W.nsIn K mainGlobals "_law_lined" = some (some (.ref f19))) (l19 : K.lookup f19 = some ⟨oc19, od19, .func (PySem.W.fnOf "_law_lined" "_law_lined" (defArgs s_l_lined) (defBody s_l_lined) (defScope s_l_lined) .none kV19 dc19 pm19 an19 cd19 ct19), sl19⟩) (c19 : PySem.W.codeIn K cd19 "_law_lined" = true) (k19 : PySem.W.keepIn K (.ref f19) = true)
    {od20 an20 : Option Addr} {sl20 : Array (Option Value)} {oc20 kV20 dc20 pm20 cd20 ct20 : Value} {fl : Addr}
    (a20 : PySem.W.nsIn K mainGlobals "law" = some (some (.ref fl))) (l20 : K.lookup fl = some ⟨oc20, od20, .func (PySem.W.fnOf "law" "law" (defArgs s_law) (defBody s_law) (defScope s_law) .none kV20 dc20 pm20 an20 cd20 ct20), sl20⟩) (c20 : PySem.W.codeIn K cd20 "law" = true) (k20 : PySem.W.keepIn K (.ref fl) = true)
    (z_ValueError : PySem.W.nsIn K mainGlobals "ValueError" = some none)
    (z_all : PySem.W.nsIn K mainGlobals "all" = some none)
    (z_bool : PySem.W.nsIn K mainGlobals "bool" = some none)
    (z_int : PySem.W.nsIn K mainGlobals "int" = some none)
    (z_isinstance : PySem.W.nsIn K mainGlobals "isinstance" = some none)
    (z_len : PySem.W.nsIn K mainGlobals "len" = some none)
    (z_max : PySem.W.nsIn K mainGlobals "max" = some none)
    (z_range : PySem.W.nsIn K mainGlobals "range" = some none)
    (z_str : PySem.W.nsIn K mainGlobals "str" = some none)
    (z_sum : PySem.W.nsIn K mainGlobals "sum" = some none)
    (z_tuple : PySem.W.nsIn K mainGlobals "tuple" = some none)
    {t_MOST_LINES : Tok} (v_MOST_LINES : PySem.W.nsIn K mainGlobals "MOST_LINES" = some (some (.int 12 t_MOST_LINES)))
    {t_FIGURES : Tok} (v_FIGURES : PySem.W.nsIn K mainGlobals "FIGURES" = some (some (.str "0123456789" t_FIGURES)))
    {e_BadRun : Addr} (g_BadRun : PySem.W.nsIn K mainGlobals "BadRun" = some (some (.ref e_BadRun)))
    {e_NoLaying : Addr} (g_NoLaying : PySem.W.nsIn K mainGlobals "NoLaying" = some (some (.ref e_NoLaying)))
    {e_NoNote : Addr} (g_NoNote : PySem.W.nsIn K mainGlobals "NoNote" = some (some (.ref e_NoNote)))
    {e_NoNumber : Addr} (g_NoNumber : PySem.W.nsIn K mainGlobals "NoNumber" = some (some (.ref e_NoNumber)))
    {e_PaintError : Addr} (g_PaintError : PySem.W.nsIn K mainGlobals "PaintError" = some (some (.ref e_PaintError)))
    {e_TooMany : Addr} (g_TooMany : PySem.W.nsIn K mainGlobals "TooMany" = some (some (.ref e_TooMany)))
    {e_Wide : Addr} (g_Wide : PySem.W.nsIn K mainGlobals "Wide" = some (some (.ref e_Wide)))
    (ke_BadRun : PySem.W.keepIn K (.ref e_BadRun) = true) (x_BadRun : PySem.W.excIn K e_BadRun [.type "ValueError", .type "Exception", .type "BaseException", .type "object"] "ValueError.__new__" = true) (b_BadRun : PySem.W.subIn K (.ref e_BadRun) (.type "BaseException") = some true) (ty_BadRun : PySem.W.typeIn K (.ref e_BadRun) = some (.type "type"))
    (ke_NoNote : PySem.W.keepIn K (.ref e_NoNote) = true) (x_NoNote : PySem.W.excIn K e_NoNote [.type "ValueError", .type "Exception", .type "BaseException", .type "object"] "ValueError.__new__" = true) (b_NoNote : PySem.W.subIn K (.ref e_NoNote) (.type "BaseException") = some true) (ty_NoNote : PySem.W.typeIn K (.ref e_NoNote) = some (.type "type"))
    (ke_TooMany : PySem.W.keepIn K (.ref e_TooMany) = true) (x_TooMany : PySem.W.excIn K e_TooMany [.type "ValueError", .type "Exception", .type "BaseException", .type "object"] "ValueError.__new__" = true) (b_TooMany : PySem.W.subIn K (.ref e_TooMany) (.type "BaseException") = some true) (ty_TooMany : PySem.W.typeIn K (.ref e_TooMany) = some (.type "type"))
    (ke_Wide : PySem.W.keepIn K (.ref e_Wide) = true) (x_Wide : PySem.W.excIn K e_Wide [.type "ValueError", .type "Exception", .type "BaseException", .type "object"] "ValueError.__new__" = true) (b_Wide : PySem.W.subIn K (.ref e_Wide) (.type "BaseException") = some true) (ty_Wide : PySem.W.typeIn K (.ref e_Wide) = some (.type "type"))
    (hn : PySem.W.specialIn K (.builtin "object.__class__") "__get__" = some (some (.builtin "getset_descriptor.__get__"))) (ht : PySem.W.takesIn K (.builtin "object.__class__") = some true)
    (ga_BadRun : PySem.W.findIn K (.ref e_BadRun) "__getattribute__" = some (some (.builtin "BaseException.__getattribute__"))) (gk_BadRun : PySem.W.findIn K (.ref e_BadRun) "__getattr__" = some none) (gc_BadRun : PySem.W.findIn K (.ref e_BadRun) "__class__" = some (some (.builtin "object.__class__"))) (gm_BadRun : PySem.W.mroIn K e_BadRun (.type "object") = some true)
    (ga_NoNote : PySem.W.findIn K (.ref e_NoNote) "__getattribute__" = some (some (.builtin "BaseException.__getattribute__"))) (gk_NoNote : PySem.W.findIn K (.ref e_NoNote) "__getattr__" = some none) (gc_NoNote : PySem.W.findIn K (.ref e_NoNote) "__class__" = some (some (.builtin "object.__class__"))) (gm_NoNote : PySem.W.mroIn K e_NoNote (.type "object") = some true)
    (ga_TooMany : PySem.W.findIn K (.ref e_TooMany) "__getattribute__" = some (some (.builtin "BaseException.__getattribute__"))) (gk_TooMany : PySem.W.findIn K (.ref e_TooMany) "__getattr__" = some none) (gc_TooMany : PySem.W.findIn K (.ref e_TooMany) "__class__" = some (some (.builtin "object.__class__"))) (gm_TooMany : PySem.W.mroIn K e_TooMany (.type "object") = some true)
    (ga_Wide : PySem.W.findIn K (.ref e_Wide) "__getattribute__" = some (some (.builtin "BaseException.__getattribute__"))) (gk_Wide : PySem.W.findIn K (.ref e_Wide) "__getattr__" = some none) (gc_Wide : PySem.W.findIn K (.ref e_Wide) "__class__" = some (some (.builtin "object.__class__"))) (gm_Wide : PySem.W.mroIn K e_Wide (.type "object") = some true)
    (gd_BadRun : PySem.W.hasDictIn K e_BadRun = true)
    (gd_NoLaying : PySem.W.hasDictIn K e_NoLaying = true)
    (ty_NoLaying : PySem.W.typeIn K (.ref e_NoLaying) = some (.type "type"))
    (gd_NoNote : PySem.W.hasDictIn K e_NoNote = true)
    (gd_NoNumber : PySem.W.hasDictIn K e_NoNumber = true)
    (ty_NoNumber : PySem.W.typeIn K (.ref e_NoNumber) = some (.type "type"))
    (gd_PaintError : PySem.W.hasDictIn K e_PaintError = true)
    (ty_PaintError : PySem.W.typeIn K (.ref e_PaintError) = some (.type "type"))
    (gd_TooMany : PySem.W.hasDictIn K e_TooMany = true)
    (gd_Wide : PySem.W.hasDictIn K e_Wide = true)
    (b_PaintError : PySem.W.subIn K (.ref e_PaintError) (.type "BaseException") = some true)
    (i_BadRun_PaintError : PySem.W.subIn K (.ref e_BadRun) (.ref e_PaintError) = some true)
    (i_BadRun_NoLaying : PySem.W.subIn K (.ref e_BadRun) (.ref e_NoLaying) = some false)
    (i_BadRun_NoNumber : PySem.W.subIn K (.ref e_BadRun) (.ref e_NoNumber) = some false)
    (i_BadRun_TooMany : PySem.W.subIn K (.ref e_BadRun) (.ref e_TooMany) = some false)
    (i_BadRun_BadRun : PySem.W.subIn K (.ref e_BadRun) (.ref e_BadRun) = some true)
    (i_BadRun_Wide : PySem.W.subIn K (.ref e_BadRun) (.ref e_Wide) = some false)
    (i_BadRun_NoNote : PySem.W.subIn K (.ref e_BadRun) (.ref e_NoNote) = some false)
    (i_BadRun_ValueError : PySem.W.subIn K (.ref e_BadRun) (.type "ValueError") = some true)
    (i_NoNote_PaintError : PySem.W.subIn K (.ref e_NoNote) (.ref e_PaintError) = some true)
    (i_NoNote_NoLaying : PySem.W.subIn K (.ref e_NoNote) (.ref e_NoLaying) = some false)
    (i_NoNote_NoNumber : PySem.W.subIn K (.ref e_NoNote) (.ref e_NoNumber) = some false)
    (i_NoNote_TooMany : PySem.W.subIn K (.ref e_NoNote) (.ref e_TooMany) = some false)
    (i_NoNote_BadRun : PySem.W.subIn K (.ref e_NoNote) (.ref e_BadRun) = some false)
    (i_NoNote_Wide : PySem.W.subIn K (.ref e_NoNote) (.ref e_Wide) = some false)
    (i_NoNote_NoNote : PySem.W.subIn K (.ref e_NoNote) (.ref e_NoNote) = some true)
    (i_NoNote_ValueError : PySem.W.subIn K (.ref e_NoNote) (.type "ValueError") = some true)
    (i_TooMany_PaintError : PySem.W.subIn K (.ref e_TooMany) (.ref e_PaintError) = some true)
    (i_TooMany_NoLaying : PySem.W.subIn K (.ref e_TooMany) (.ref e_NoLaying) = some false)
    (i_TooMany_NoNumber : PySem.W.subIn K (.ref e_TooMany) (.ref e_NoNumber) = some false)
    (i_TooMany_TooMany : PySem.W.subIn K (.ref e_TooMany) (.ref e_TooMany) = some true)
    (i_TooMany_BadRun : PySem.W.subIn K (.ref e_TooMany) (.ref e_BadRun) = some false)
    (i_TooMany_Wide : PySem.W.subIn K (.ref e_TooMany) (.ref e_Wide) = some false)
    (i_TooMany_NoNote : PySem.W.subIn K (.ref e_TooMany) (.ref e_NoNote) = some false)
    (i_TooMany_ValueError : PySem.W.subIn K (.ref e_TooMany) (.type "ValueError") = some true)
    (i_Wide_PaintError : PySem.W.subIn K (.ref e_Wide) (.ref e_PaintError) = some true)
    (i_Wide_NoLaying : PySem.W.subIn K (.ref e_Wide) (.ref e_NoLaying) = some false)
    (i_Wide_NoNumber : PySem.W.subIn K (.ref e_Wide) (.ref e_NoNumber) = some false)
    (i_Wide_TooMany : PySem.W.subIn K (.ref e_Wide) (.ref e_TooMany) = some false)
    (i_Wide_BadRun : PySem.W.subIn K (.ref e_Wide) (.ref e_BadRun) = some false)
    (i_Wide_Wide : PySem.W.subIn K (.ref e_Wide) (.ref e_Wide) = some true)
    (i_Wide_NoNote : PySem.W.subIn K (.ref e_Wide) (.ref e_NoNote) = some false)
    (i_Wide_ValueError : PySem.W.subIn K (.ref e_Wide) (.type "ValueError") = some true)
    : ∃ fd : FuncData, (∀ (s : Shared) (v : Value), BindsTo s fd ⟨[v], []⟩ [("script", v)]) ∧ ∀ base : Heap, K.In base → base.Ns mainGlobals mg → FnOk l.prog w K mg base CX0 5 fa fd ["script"] (spLaw K) := by
  have e := hfa.symm.trans (PySem.W.mg_of X G a20)
  cases e
  have F0 := fun_mk (st := s_checked) l0 c0 k0
  have b0 := F0.binds (ps := ["lines", "size"]) fun _ _ _ _ _ _ us hl => match us, hl with | [_, _], _ => rfl
  have F1 := fun_mk (st := s_looked) l1 c1 k1
  have b1 := F1.binds (ps := ["board"]) fun _ _ _ _ _ _ us hl => match us, hl with | [_], _ => rfl
  have F2 := fun_mk (st := s_run_of) l2 c2 k2
  have b2 := F2.binds (ps := ["word"]) fun _ _ _ _ _ _ us hl => match us, hl with | [_], _ => rfl
  have F3 := fun_mk (st := s_runs_read) l3 c3 k3
  have b3 := F3.binds (ps := ["text"]) fun _ _ _ _ _ _ us hl => match us, hl with | [_], _ => rfl
  have F4 := fun_mk (st := s_read) l4 c4 k4
  have b4 := F4.binds (ps := ["text"]) fun _ _ _ _ _ _ us hl => match us, hl with | [_], _ => rfl
  have F5 := fun_mk (st := s_l_cell_at) l5 c5 k5
  have b5 := F5.binds (ps := ["script", "k"]) fun _ _ _ _ _ _ us hl => match us, hl with | [_, _], _ => rfl
  have F6 := fun_mk (st := s_l_whole) l6 c6 k6
  have b6 := F6.binds (ps := ["x"]) fun _ _ _ _ _ _ us hl => match us, hl with | [_], _ => rfl
  have F7 := fun_mk (st := s_l_mix) l7 c7 k7
  have b7 := F7.binds (ps := ["cell", "k"]) fun _ _ _ _ _ _ us hl => match us, hl with | [_, _], _ => rfl
  have F8 := fun_mk (st := s_l_runs) l8 c8 k8
  have b8 := F8.binds (ps := ["cells"]) fun _ _ _ _ _ _ us hl => match us, hl with | [_], _ => rfl
  have F9 := fun_mk (st := s_l_picture) l9 c9 k9
  have b9 := F9.binds (ps := ["cell", "rows", "columns"]) fun _ _ _ _ _ _ us hl => match us, hl with | [_, _, _], _ => rfl
  have F10 := fun_mk (st := s_l_column) l10 c10 k10
  have b10 := F10.binds (ps := ["rows", "at"]) fun _ _ _ _ _ _ us hl => match us, hl with | [_, _], _ => rfl
  have F11 := fun_mk (st := s_l_board) l11 c11 k11
  have b11 := F11.binds (ps := ["picture"]) fun _ _ _ _ _ _ us hl => match us, hl with | [_], _ => rfl
  have F12 := fun_mk (st := s_l_lines) l12 c12 k12
  have b12 := F12.binds (ps := ["found", "due"]) fun _ _ _ _ _ _ us hl => match us, hl with | [_, _], _ => rfl
  have F13 := fun_mk (st := s_l_text) l13 c13 k13
  have b13 := F13.binds (ps := ["board"]) fun _ _ _ _ _ _ us hl => match us, hl with | [_], _ => rfl
  have F14 := fun_mk (st := s_l_refused) l14 c14 k14
  have b14 := F14.binds (ps := ["marks", "which"]) fun _ _ _ _ _ _ us hl => match us, hl with | [_, _], _ => rfl
  have F15 := fun_mk (st := s_l_told) l15 c15 k15
  have b15 := F15.binds (ps := ["text"]) fun _ _ _ _ _ _ us hl => match us, hl with | [_], _ => rfl
  have F16 := fun_mk (st := s_l_line_of) l16 c16 k16
  have b16 := F16.binds (ps := ["text"]) fun _ _ _ _ _ _ us hl => match us, hl with | [_], _ => rfl
  have F17 := fun_mk (st := s_l_due) l17 c17 k17
  have b17 := F17.binds (ps := ["text"]) fun _ _ _ _ _ _ us hl => match us, hl with | [_], _ => rfl
  have F18 := fun_mk (st := s_l_odd) l18 c18 k18
  have b18 := F18.binds (ps := ["cell"]) fun _ _ _ _ _ _ us hl => match us, hl with | [_], _ => rfl
  have F19 := fun_mk (st := s_l_lined) l19 c19 k19
  have b19 := F19.binds (ps := ["text", "cell", "other"]) fun _ _ _ _ _ _ us hl => match us, hl with | [_, _, _], _ => rfl
  have F20 := fun_mk (st := s_law) l20 c20 k20
  obtain ⟨cl, h_BadRun, h_NoLaying, h_NoNote, h_NoNumber, h_PaintError, h_TooMany, h_Wide⟩ : ∃ cl : Str → Addr, cl "BadRun" = e_BadRun ∧ cl "NoLaying" = e_NoLaying ∧ cl "NoNote" = e_NoNote ∧ cl "NoNumber" = e_NoNumber ∧ cl "PaintError" = e_PaintError ∧ cl "TooMany" = e_TooMany ∧ cl "Wide" = e_Wide := ⟨fun c => if c = "BadRun" then e_BadRun else if c = "NoLaying" then e_NoLaying else if c = "NoNote" then e_NoNote else if c = "NoNumber" then e_NoNumber else if c = "PaintError" then e_PaintError else if c = "TooMany" then e_TooMany else if c = "Wide" then e_Wide else e_Wide, (if_pos rfl), ((if_neg (by decide)).trans (if_pos rfl)), ((if_neg (by decide)).trans ((if_neg (by decide)).trans (if_pos rfl))), ((if_neg (by decide)).trans ((if_neg (by decide)).trans ((if_neg (by decide)).trans (if_pos rfl)))), ((if_neg (by decide)).trans ((if_neg (by decide)).trans ((if_neg (by decide)).trans ((if_neg (by decide)).trans (if_pos rfl))))), ((if_neg (by decide)).trans ((if_neg (by decide)).trans ((if_neg (by decide)).trans ((if_neg (by decide)).trans ((if_neg (by decide)).trans (if_pos rfl)))))), ((if_neg (by decide)).trans ((if_neg (by decide)).trans ((if_neg (by decide)).trans ((if_neg (by decide)).trans ((if_neg (by decide)).trans ((if_neg (by decide)).trans (if_pos rfl)))))))⟩
  subst h_BadRun
  subst h_NoLaying
  subst h_NoNote
  subst h_NoNumber
  subst h_PaintError
  subst h_TooMany
  subst h_Wide
  have hok : ∀ c ∈ errL, ErrOk K cl (.ref (cl "PaintError")) [.ref (cl "NoLaying"), .ref (cl "NoNumber"), .ref (cl "TooMany"), .ref (cl "BadRun")] [.ref (cl "Wide"), .ref (cl "NoNote"), .ty "ValueError"] c := by
    intro c hc
    unfold errL at hc
    simp only [List.mem_cons, List.not_mem_nil, or_false] at hc
    rcases hc with rfl | rfl | rfl | rfl
    · exact ⟨⟨ga_BadRun, gk_BadRun, b_BadRun, gd_BadRun, gc_BadRun, hn, ht, gm_BadRun⟩, PySem.W.exm_ref b_PaintError gd_PaintError ty_PaintError i_BadRun_PaintError, _, _, (.ref (kit_ref x_BadRun gd_NoLaying ty_NoLaying i_BadRun_NoLaying) (.ref (kit_ref x_BadRun gd_NoNumber ty_NoNumber i_BadRun_NoNumber) (.ref (kit_ref x_BadRun gd_TooMany ty_TooMany i_BadRun_TooMany) (.ref (kit_ref x_BadRun gd_BadRun ty_BadRun i_BadRun_BadRun) .nil)))), (.ref (kit_ref x_BadRun gd_Wide ty_Wide i_BadRun_Wide) (.ref (kit_ref x_BadRun gd_NoNote ty_NoNote i_BadRun_NoNote) (.typ (kit_typ i_BadRun_ValueError) .nil))), by decide⟩
    · exact ⟨⟨ga_NoNote, gk_NoNote, b_NoNote, gd_NoNote, gc_NoNote, hn, ht, gm_NoNote⟩, PySem.W.exm_ref b_PaintError gd_PaintError ty_PaintError i_NoNote_PaintError, _, _, (.ref (kit_ref x_NoNote gd_NoLaying ty_NoLaying i_NoNote_NoLaying) (.ref (kit_ref x_NoNote gd_NoNumber ty_NoNumber i_NoNote_NoNumber) (.ref (kit_ref x_NoNote gd_TooMany ty_TooMany i_NoNote_TooMany) (.ref (kit_ref x_NoNote gd_BadRun ty_BadRun i_NoNote_BadRun) .nil)))), (.ref (kit_ref x_NoNote gd_Wide ty_Wide i_NoNote_Wide) (.ref (kit_ref x_NoNote gd_NoNote ty_NoNote i_NoNote_NoNote) (.typ (kit_typ i_NoNote_ValueError) .nil))), by decide⟩
    · exact ⟨⟨ga_TooMany, gk_TooMany, b_TooMany, gd_TooMany, gc_TooMany, hn, ht, gm_TooMany⟩, PySem.W.exm_ref b_PaintError gd_PaintError ty_PaintError i_TooMany_PaintError, _, _, (.ref (kit_ref x_TooMany gd_NoLaying ty_NoLaying i_TooMany_NoLaying) (.ref (kit_ref x_TooMany gd_NoNumber ty_NoNumber i_TooMany_NoNumber) (.ref (kit_ref x_TooMany gd_TooMany ty_TooMany i_TooMany_TooMany) (.ref (kit_ref x_TooMany gd_BadRun ty_BadRun i_TooMany_BadRun) .nil)))), (.ref (kit_ref x_TooMany gd_Wide ty_Wide i_TooMany_Wide) (.ref (kit_ref x_TooMany gd_NoNote ty_NoNote i_TooMany_NoNote) (.typ (kit_typ i_TooMany_ValueError) .nil))), by decide⟩
    · exact ⟨⟨ga_Wide, gk_Wide, b_Wide, gd_Wide, gc_Wide, hn, ht, gm_Wide⟩, PySem.W.exm_ref b_PaintError gd_PaintError ty_PaintError i_Wide_PaintError, _, _, (.ref (kit_ref x_Wide gd_NoLaying ty_NoLaying i_Wide_NoLaying) (.ref (kit_ref x_Wide gd_NoNumber ty_NoNumber i_Wide_NoNumber) (.ref (kit_ref x_Wide gd_TooMany ty_TooMany i_Wide_TooMany) (.ref (kit_ref x_Wide gd_BadRun ty_BadRun i_Wide_BadRun) .nil)))), (.ref (kit_ref x_Wide gd_Wide ty_Wide i_Wide_Wide) (.ref (kit_ref x_Wide gd_NoNote ty_NoNote i_Wide_NoNote) (.typ (kit_typ i_Wide_ValueError) .nil))), by decide⟩
  have T : Nn K mg cl := ⟨PySem.W.mg_none_of X G z_ValueError, PySem.W.mg_none_of X G z_all, PySem.W.mg_none_of X G z_bool, PySem.W.mg_none_of X G z_int, PySem.W.mg_none_of X G z_isinstance, PySem.W.mg_none_of X G z_len, PySem.W.mg_none_of X G z_max, PySem.W.mg_none_of X G z_range, PySem.W.mg_none_of X G z_str, PySem.W.mg_none_of X G z_sum, PySem.W.mg_none_of X G z_tuple, PySem.W.mg_of X G g_BadRun, PySem.W.mg_of X G g_NoLaying, PySem.W.mg_of X G g_NoNote, PySem.W.mg_of X G g_NoNumber, PySem.W.mg_of X G g_PaintError, PySem.W.mg_of X G g_TooMany, PySem.W.mg_of X G g_Wide, ke_BadRun, x_BadRun, b_BadRun, ty_BadRun, ke_NoNote, x_NoNote, b_NoNote, ty_NoNote, ke_TooMany, x_TooMany, b_TooMany, ty_TooMany, ke_Wide, x_Wide, b_Wide, ty_Wide, hok, ⟨_, PySem.W.mg_of X G v_MOST_LINES⟩, ⟨_, PySem.W.mg_of X G v_FIGURES⟩⟩
  refine ⟨PySem.W.fnOf "law" "law" (defArgs s_law) (defBody s_law) (defScope s_law) .none kV20 dc20 pm20 an20 cd20 ct20, fun s v => .of_eq rfl, fun base _ _ => ?_⟩
  have q_checked : Cal l.prog w K mg base cl "checked" 1 D_checked := cal_of F0 (PySem.W.mg_of X G a0) b0 (ok_checked T  F0)
  have q_looked : Cal l.prog w K mg base cl "looked" 2 D_looked := cal_of F1 (PySem.W.mg_of X G a1) b1 (ok_looked T q_checked F1)
  have q_run_of : Cal l.prog w K mg base cl "run_of" 1 D_run_of := cal_of F2 (PySem.W.mg_of X G a2) b2 (ok_run_of T  F2)
  have q_runs_read : Cal l.prog w K mg base cl "runs_read" 2 D_runs_read := cal_of F3 (PySem.W.mg_of X G a3) b3 (ok_runs_read T q_run_of F3)
  have q_read : Cal l.prog w K mg base cl "read" 3 D_read := cal_of F4 (PySem.W.mg_of X G a4) b4 (ok_read T q_looked q_runs_read F4)
  have q_l_cell_at : Cal l.prog w K mg base cl "_law_cell_at" 1 D_l_cell_at := cal_of F5 (PySem.W.mg_of X G a5) b5 (ok_l_cell_at T  F5)
  have q_l_whole : Cal l.prog w K mg base cl "_law_whole" 1 D_l_whole := cal_of F6 (PySem.W.mg_of X G a6) b6 (ok_l_whole T  F6)
  have q_l_mix : Cal l.prog w K mg base cl "_law_mix" 1 D_l_mix := cal_of F7 (PySem.W.mg_of X G a7) b7 (ok_l_mix T  F7)
  have q_l_runs : Cal l.prog w K mg base cl "_law_runs" 1 D_l_runs := cal_of F8 (PySem.W.mg_of X G a8) b8 (ok_l_runs T  F8)
  have q_l_picture : Cal l.prog w K mg base cl "_law_picture" 2 D_l_picture := cal_of F9 (PySem.W.mg_of X G a9) b9 (ok_l_picture T q_l_mix F9)
  have q_l_column : Cal l.prog w K mg base cl "_law_column" 1 D_l_column := cal_of F10 (PySem.W.mg_of X G a10) b10 (ok_l_column T  F10)
  have q_l_board : Cal l.prog w K mg base cl "_law_board" 2 D_l_board := cal_of F11 (PySem.W.mg_of X G a11) b11 (ok_l_board T q_l_column q_l_runs F11)
  have q_l_lines : Cal l.prog w K mg base cl "_law_lines" 2 D_l_lines := cal_of F12 (PySem.W.mg_of X G a12) b12 (ok_l_lines T q_l_whole F12)
  have q_l_text : Cal l.prog w K mg base cl "_law_text" 1 D_l_text := cal_of F13 (PySem.W.mg_of X G a13) b13 (ok_l_text T  F13)
  have q_l_refused : Cal l.prog w K mg base cl "_law_refused" 1 D_l_refused := cal_of F14 (PySem.W.mg_of X G a14) b14 (ok_l_refused T  F14)
  have q_l_told : Cal l.prog w K mg base cl "_law_told" 4 D_l_told := cal_of F15 (PySem.W.mg_of X G a15) b15 (ok_l_told T q_read F15)
  have q_l_line_of : Cal l.prog w K mg base cl "_law_line_of" 1 D_l_line_of := cal_of F16 (PySem.W.mg_of X G a16) b16 (ok_l_line_of T  F16)
  have q_l_due : Cal l.prog w K mg base cl "_law_due" 2 D_l_due := cal_of F17 (PySem.W.mg_of X G a17) b17 (ok_l_due T q_l_line_of F17)
  have q_l_odd : Cal l.prog w K mg base cl "_law_odd" 1 D_l_odd := cal_of F18 (PySem.W.mg_of X G a18) b18 (ok_l_odd T  F18)
  have q_l_lined : Cal l.prog w K mg base cl "_law_lined" 1 D_l_lined := cal_of F19 (PySem.W.mg_of X G a19) b19 (ok_l_lined T  F19)
  exact ok_law T q_l_board q_l_cell_at q_l_due q_l_lined q_l_lines q_l_odd q_l_picture q_l_refused q_l_text q_l_told F20 math
end Rrunpaint_k14_read
open PySem PySem.W PyProof.Rows
set_option maxHeartbeats 0 in
theorem PySem.Challenge.cw_runpaint_k14_read_holds : PySem.Challenge.rw_runpaint_k14_read.Holds := by
  w_on; o_law; k_head; (case hw => w_witness2)
  k_fill
  refine L2.walk_ofB (l := PySem.Challenge.rw_runpaint_k14_read) (n := 63) (k := 5) (x := "script") (CX := fun _ => L2.CX0) (sp := fun w => RP.spLaw _) rfl (by decide) rfl ⟨rfl, by decide, by decide⟩ (fun w h Y => PySem.W.kIn_of Y) ?F (fun _ _ a ns hl hz _ hS => ⟨a, ns, rfl, hS, hl, fun z m => RP.log_of (hz z m), fun _ => rfl⟩) (fun _ _ _ _ _ h => h)
  case F =>
    intro w mg fa h KX G hmg
    refine' Rrunpaint_k14_read.all_mk Rrunpaint_k14_read.math KX G hmg ?a0 ?l0 ?c0 ?k0 ?a1 ?l1 ?c1 ?k1 ?a2 ?l2 ?c2 ?k2 ?a3 ?l3 ?c3 ?k3 ?a4 ?l4 ?c4 ?k4 ?a5 ?l5 ?c5 ?k5 ?a6 ?l6 ?c6 ?k6 ?a7 ?l7 ?c7 ?k7 ?a8 ?l8 ?c8 ?k8 ?a9 ?l9 ?c9 ?k9 ?a10 ?l10 ?c10 ?k10 ?a11 ?l11 ?c11 ?k11 ?a12 ?l12 ?c12 ?k12 ?a13 ?l13 ?c13 ?k13 ?a14 ?l14 ?c14 ?k14 ?a15 ?l15 ?c15 ?k15 ?a16 ?l16 ?c16 ?k16 ?a17 ?l17 ?c17 ?k17 ?a18 ?l18 ?c18 ?k18 ?a19 ?l19 ?c19 ?k19 ?a20 ?l20 ?c20 ?k20 ?z_ValueError ?z_all ?z_bool ?z_int ?z_isinstance ?z_len ?z_max ?z_range ?z_str ?z_sum ?z_tuple ?v_MOST_LINES ?v_FIGURES ?g_BadRun ?g_NoLaying ?g_NoNote ?g_NoNumber ?g_PaintError ?g_TooMany ?g_Wide ?ke_BadRun ?x_BadRun ?b_BadRun ?ty_BadRun ?ke_NoNote ?x_NoNote ?b_NoNote ?ty_NoNote ?ke_TooMany ?x_TooMany ?b_TooMany ?ty_TooMany ?ke_Wide ?x_Wide ?b_Wide ?ty_Wide ?hn ?ht ?ga_BadRun ?gk_BadRun ?gc_BadRun ?gm_BadRun ?ga_NoNote ?gk_NoNote ?gc_NoNote ?gm_NoNote ?ga_TooMany ?gk_TooMany ?gc_TooMany ?gm_TooMany ?ga_Wide ?gk_Wide ?gc_Wide ?gm_Wide ?gd_BadRun ?gd_NoLaying ?ty_NoLaying ?gd_NoNote ?gd_NoNumber ?ty_NoNumber ?gd_PaintError ?ty_PaintError ?gd_TooMany ?gd_Wide ?b_PaintError ?i_BadRun_PaintError ?i_BadRun_NoLaying ?i_BadRun_NoNumber ?i_BadRun_TooMany ?i_BadRun_BadRun ?i_BadRun_Wide ?i_BadRun_NoNote ?i_BadRun_ValueError ?i_NoNote_PaintError ?i_NoNote_NoLaying ?i_NoNote_NoNumber ?i_NoNote_TooMany ?i_NoNote_BadRun ?i_NoNote_Wide ?i_NoNote_NoNote ?i_NoNote_ValueError ?i_TooMany_PaintError ?i_TooMany_NoLaying ?i_TooMany_NoNumber ?i_TooMany_TooMany ?i_TooMany_BadRun ?i_TooMany_Wide ?i_TooMany_NoNote ?i_TooMany_ValueError ?i_Wide_PaintError ?i_Wide_NoLaying ?i_Wide_NoNumber ?i_Wide_TooMany ?i_Wide_BadRun ?i_Wide_Wide ?i_Wide_NoNote ?i_Wide_ValueError
    (case a0 => k_is)
    (case l0 => k_is)
    (case c0 => k_is)
    (case k0 => k_is)
    (case a1 => k_is)
    (case l1 => k_is)
    (case c1 => k_is)
    (case k1 => k_is)
    (case a2 => k_is)
    (case l2 => k_is)
    (case c2 => k_is)
    (case k2 => k_is)
    (case a3 => k_is)
    (case l3 => k_is)
    (case c3 => k_is)
    (case k3 => k_is)
    (case a4 => k_is)
    (case l4 => k_is)
    (case c4 => k_is)
    (case k4 => k_is)
    (case a5 => k_is)
    (case l5 => k_is)
    (case c5 => k_is)
    (case k5 => k_is)
    (case a6 => k_is)
    (case l6 => k_is)
    (case c6 => k_is)
    (case k6 => k_is)
    (case a7 => k_is)
    (case l7 => k_is)
    (case c7 => k_is)
    (case k7 => k_is)
    (case a8 => k_is)
    (case l8 => k_is)
    (case c8 => k_is)
    (case k8 => k_is)
    (case a9 => k_is)
    (case l9 => k_is)
    (case c9 => k_is)
    (case k9 => k_is)
    (case a10 => k_is)
    (case l10 => k_is)
    (case c10 => k_is)
    (case k10 => k_is)
    (case a11 => k_is)
    (case l11 => k_is)
    (case c11 => k_is)
    (case k11 => k_is)
    (case a12 => k_is)
    (case l12 => k_is)
    (case c12 => k_is)
    (case k12 => k_is)
    (case a13 => k_is)
    (case l13 => k_is)
    (case c13 => k_is)
    (case k13 => k_is)
    (case a14 => k_is)
    (case l14 => k_is)
    (case c14 => k_is)
    (case k14 => k_is)
    (case a15 => k_is)
    (case l15 => k_is)
    (case c15 => k_is)
    (case k15 => k_is)
    (case a16 => k_is)
    (case l16 => k_is)
    (case c16 => k_is)
    (case k16 => k_is)
    (case a17 => k_is)
    (case l17 => k_is)
    (case c17 => k_is)
    (case k17 => k_is)
    (case a18 => k_is)
    (case l18 => k_is)
    (case c18 => k_is)
    (case k18 => k_is)
    (case a19 => k_is)
    (case l19 => k_is)
    (case c19 => k_is)
    (case k19 => k_is)
    (case a20 => k_is)
    (case l20 => k_is)
    (case c20 => k_is)
    (case k20 => k_is)
    (case z_ValueError => k_is)
    (case z_all => k_is)
    (case z_bool => k_is)
    (case z_int => k_is)
    (case z_isinstance => k_is)
    (case z_len => k_is)
    (case z_max => k_is)
    (case z_range => k_is)
    (case z_str => k_is)
    (case z_sum => k_is)
    (case z_tuple => k_is)
    (case v_MOST_LINES => k_is)
    (case v_FIGURES => k_is)
    (case g_BadRun => k_is)
    (case g_NoLaying => k_is)
    (case g_NoNote => k_is)
    (case g_NoNumber => k_is)
    (case g_PaintError => k_is)
    (case g_TooMany => k_is)
    (case g_Wide => k_is)
    (case ke_BadRun => k_is)
    (case x_BadRun => k_exc)
    (case b_BadRun => k_is)
    (case ty_BadRun => k_is)
    (case ke_NoNote => k_is)
    (case x_NoNote => k_exc)
    (case b_NoNote => k_is)
    (case ty_NoNote => k_is)
    (case ke_TooMany => k_is)
    (case x_TooMany => k_exc)
    (case b_TooMany => k_is)
    (case ty_TooMany => k_is)
    (case ke_Wide => k_is)
    (case x_Wide => k_exc)
    (case b_Wide => k_is)
    (case ty_Wide => k_is)
    (case hn => k_is)
    (case ht => k_is)
    (case ga_BadRun => k_is)
    (case gk_BadRun => k_is)
    (case gc_BadRun => k_is)
    (case gm_BadRun => k_is)
    (case ga_NoNote => k_is)
    (case gk_NoNote => k_is)
    (case gc_NoNote => k_is)
    (case gm_NoNote => k_is)
    (case ga_TooMany => k_is)
    (case gk_TooMany => k_is)
    (case gc_TooMany => k_is)
    (case gm_TooMany => k_is)
    (case ga_Wide => k_is)
    (case gk_Wide => k_is)
    (case gc_Wide => k_is)
    (case gm_Wide => k_is)
    (case gd_BadRun => k_is)
    (case gd_NoLaying => k_is)
    (case ty_NoLaying => k_is)
    (case gd_NoNote => k_is)
    (case gd_NoNumber => k_is)
    (case ty_NoNumber => k_is)
    (case gd_PaintError => k_is)
    (case ty_PaintError => k_is)
    (case gd_TooMany => k_is)
    (case gd_Wide => k_is)
    (case b_PaintError => k_is)
    (case i_BadRun_PaintError => k_is)
    (case i_BadRun_NoLaying => k_is)
    (case i_BadRun_NoNumber => k_is)
    (case i_BadRun_TooMany => k_is)
    (case i_BadRun_BadRun => k_is)
    (case i_BadRun_Wide => k_is)
    (case i_BadRun_NoNote => k_is)
    (case i_BadRun_ValueError => k_is)
    (case i_NoNote_PaintError => k_is)
    (case i_NoNote_NoLaying => k_is)
    (case i_NoNote_NoNumber => k_is)
    (case i_NoNote_TooMany => k_is)
    (case i_NoNote_BadRun => k_is)
    (case i_NoNote_Wide => k_is)
    (case i_NoNote_NoNote => k_is)
    (case i_NoNote_ValueError => k_is)
    (case i_TooMany_PaintError => k_is)
    (case i_TooMany_NoLaying => k_is)
    (case i_TooMany_NoNumber => k_is)
    (case i_TooMany_TooMany => k_is)
    (case i_TooMany_BadRun => k_is)
    (case i_TooMany_Wide => k_is)
    (case i_TooMany_NoNote => k_is)
    (case i_TooMany_ValueError => k_is)
    (case i_Wide_PaintError => k_is)
    (case i_Wide_NoLaying => k_is)
    (case i_Wide_NoNumber => k_is)
    (case i_Wide_TooMany => k_is)
    (case i_Wide_BadRun => k_is)
    (case i_Wide_Wide => k_is)
    (case i_Wide_NoNote => k_is)
    (case i_Wide_ValueError => k_is)
